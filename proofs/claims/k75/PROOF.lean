import PyProof.Rows.All
import Wide.All
import OpenK.AllK
import Wide.FinOn
import HandS.ForMost
import HandS.ForExc
import HandS.Walk
import HandS.IsInst
import HandS.TupAny
import HandS.SortInts
import HandS.SortRule
import HandS.Wide
import HandS.CallSlots
import HandS.Style
import HandS.Evl
import HandS.Deep
import HandS.TupMul
import HandS.Zip
import KE.GoesEnum
import HandS.More
import HandS.Dict
import HandS.Iter
import KE.KDictCopyH
import HandS.DictTup
import PySem.Challenge.RW_exacttests_k75_whole_plans_and_rows
set_option Elab.async false
set_option linter.all false
set_option maxRecDepth 100000
set_option maxHeartbeats 2000000
/-! DC: deep values D, their representation in the abstract heap, slots, cells; the state relation Rl. -/
namespace DC
open PySem PySem.Spec PyProof.Rows L2
/-- a deep value -/
inductive D where
  | non
  | bl (b : Bool)
  | int (i : Int)
  | str (x : Str)
  | tup (xs : List D)
  | lst (xs : List D)
  | scr (ns : List Int)
  | dk (ks : List Key) (vs : List D)
  | dt (ks : List (List Key)) (vs : List D)
  | own (n : Nat)
  deriving Inhabited
/-- a slot: nothing known, a value that stands, an own container -/
inductive Sl where
  | no
  | fz (d : D)
  | ow (d : D)
  deriving Inhabited
abbrev Env := List Sl
abbrev Store := List (List Int)
def Exts (H H' : Hp) : Prop := ∀ a o, H a = some o → H' a = some o
theorem Exts.refl (H : Hp) : Exts H H := fun _ _ h => h
theorem Exts.trans {H H1 H2 : Hp} (a : Exts H H1) (b : Exts H1 H2) : Exts H H2 := fun x o h => b x o (a x o h)
theorem Exts.new {H : Hp} {p : Addr} {o : HO} (h : H p = none) : Exts H (upd H p o) := fun a u e => by
  rw [upd_ne (ne_of_none e h)]; exact e
theorem Exts.rd {H H' : Hp} {a : Addr} {u : HO} (e : Exts H H') (h : Rd H a u) : Rd H' a u := by
  rcases h with h | ⟨o, h⟩
  · exact .inl (e _ _ h)
  · exact .inr ⟨o, e _ _ h⟩
theorem Exts.sqL {K : PySem.W.Frag} {H H' : Hp} {a : Addr} {xs : List V} (e : Exts H H') (h : SqL K H a xs) : SqL K H' a xs := by
  rcases h with h | h
  · exact .inl (e.rd h)
  · exact .inr h
theorem Exts.sqT {K : PySem.W.Frag} {H H' : Hp} {a : Addr} {xs : List V} (e : Exts H H') (h : SqT K H a xs) : SqT K H' a xs := by
  rcases h with h | h
  · exact .inl (e.rd h)
  · exact .inr h
def strOk (x : Str) : Bool := x.cps.all (· < 0x110000)
mutual
inductive Rp (K : PySem.W.Frag) (T : List Addr) (H : Hp) : V → D → Prop
  | non : Rp K T H .non .non
  | bl (b : Bool) : Rp K T H (.bl b) (.bl b)
  | int (i : Int) : Rp K T H (.int i) (.int i)
  | str {x : Str} (h : strOk x = true) : Rp K T H (.str x) (.str x)
  | tup {a : Addr} {xs : List V} {ds : List D} : SqT K H a xs → RpA K T H xs ds → Rp K T H (.ref a) (.tup ds)
  | lst {a : Addr} {xs : List V} {ds : List D} : H a = some (.lst xs) → RpA K T H xs ds → Rp K T H (.ref a) (.lst ds)
  | scr {a : Addr} {ns : List Int} : SqL K H a (ns.map V.int) → Rp K T H (.ref a) (.scr ns)
  | dk {a : Addr} {kvs : List (Key × V)} {ks : List Key} {ds : List D} : Rd H a (.dK kvs) → kvs.map Prod.fst = ks → RpA K T H (kvs.map Prod.snd) ds → Rp K T H (.ref a) (.dk ks ds)
  | dt {a : Addr} {kvs : List (List Key × V)} {ks : List (List Key)} {ds : List D} : Rd H a (.dT kvs) → kvs.map Prod.fst = ks → RpA K T H (kvs.map Prod.snd) ds → Rp K T H (.ref a) (.dt ks ds)
  | own {a : Addr} {n : Nat} : T[n]? = some a → Rp K T H (.ref a) (.own n)
inductive RpA (K : PySem.W.Frag) (T : List Addr) (H : Hp) : List V → List D → Prop
  | nil : RpA K T H [] []
  | cons {v : V} {vs : List V} {d : D} {ds : List D} : Rp K T H v d → RpA K T H vs ds → RpA K T H (v :: vs) (d :: ds)
end
section
variable {K : PySem.W.Frag} {T : List Addr} {H H' : Hp}
mutual
theorem Rp.mono (e : Exts H H') : ∀ {d : D} {v : V}, Rp K T H v d → Rp K T H' v d
  | .non, _, h => by cases h; exact .non
  | .bl _, _, h => by cases h; exact .bl _
  | .int _, _, h => by cases h; exact .int _
  | .str _, _, h => by cases h with | str q => exact .str q
  | .tup ds, _, h => by cases h with | tup q r => exact .tup (e.sqT q) (RpA.mono e r)
  | .lst ds, _, h => by cases h with | lst q r => exact .lst (e _ _ q) (RpA.mono e r)
  | .scr ns, _, h => by cases h with | scr q => exact .scr (e.sqL q)
  | .dk ks ds, _, h => by cases h with | dk q z r => exact .dk (e.rd q) z (RpA.mono e r)
  | .dt ks ds, _, h => by cases h with | dt q z r => exact .dt (e.rd q) z (RpA.mono e r)
  | .own n, _, h => by cases h with | own q => exact .own q
theorem RpA.mono (e : Exts H H') : ∀ {ds : List D} {vs : List V}, RpA K T H vs ds → RpA K T H' vs ds
  | [], _, h => by cases h; exact .nil
  | d :: ds, _, h => by cases h with | cons q r => exact .cons (Rp.mono e q) (RpA.mono e r)
end
theorem RpA.length : ∀ {ds : List D} {vs : List V}, RpA K T H vs ds → vs.length = ds.length
  | [], _, h => by cases h; rfl
  | d :: ds, _, h => by cases h with | cons q r => rw [List.length_cons, List.length_cons, r.length]
theorem RpA.get : ∀ {ds : List D} {vs : List V} {i : Nat} {d : D}, RpA K T H vs ds → ds[i]? = some d → ∃ v, vs[i]? = some v ∧ Rp K T H v d
  | [], _, _, _, _, e => by simp at e
  | d :: ds, _, 0, _, h, e => by
    cases h with
    | cons q r =>
      have e' := Option.some.inj (by simpa using e)
      subst e'
      exact ⟨_, rfl, q⟩
  | d :: ds, _, i + 1, _, h, e => by
    cases h with
    | cons q r =>
      obtain ⟨v, e1, e2⟩ := RpA.get (i := i) r (by simpa using e)
      exact ⟨v, by simpa using e1, e2⟩
theorem RpA.getV : ∀ {ds : List D} {vs : List V} {i : Nat} {v : V}, RpA K T H vs ds → vs[i]? = some v → ∃ d, ds[i]? = some d ∧ Rp K T H v d
  | [], _, i, v, h, e => by cases h; simp at e
  | d :: ds, _, 0, _, h, e => by
    cases h with
    | cons q r =>
      have e' := Option.some.inj (by simpa using e)
      subst e'
      exact ⟨_, rfl, q⟩
  | d :: ds, _, i + 1, _, h, e => by
    cases h with
    | cons q r =>
      obtain ⟨v, e1, e2⟩ := RpA.getV (i := i) r (by simpa using e)
      exact ⟨v, by simpa using e1, e2⟩
theorem RpA.append : ∀ {ds es : List D} {vs ws : List V}, RpA K T H vs ds → RpA K T H ws es → RpA K T H (vs ++ ws) (ds ++ es)
  | [], _, _, _, h, h' => by cases h; exact h'
  | d :: ds, _, _, _, h, h' => by cases h with | cons q r => exact .cons q (r.append h')
theorem RpA.take : ∀ {ds : List D} {vs : List V} (n : Nat), RpA K T H vs ds → RpA K T H (vs.take n) (ds.take n)
  | _, _, 0, _ => by simp only [List.take_zero]; exact .nil
  | [], _, n + 1, h => by cases h; exact .nil
  | d :: ds, _, n + 1, h => by cases h with | cons q r => exact .cons q (r.take n)
theorem RpA.drop : ∀ {ds : List D} {vs : List V} (n : Nat), RpA K T H vs ds → RpA K T H (vs.drop n) (ds.drop n)
  | _, _, 0, h => h
  | [], _, n + 1, h => by cases h; exact .nil
  | d :: ds, _, n + 1, h => by cases h with | cons q r => exact r.drop n
theorem RpA.set {d : D} {v : V} (r : Rp K T H v d) : ∀ {ds : List D} {vs : List V} (n : Nat), RpA K T H vs ds → RpA K T H (vs.set n v) (ds.set n d)
  | [], _, n, h => by cases h; exact .nil
  | _ :: ds, _, 0, h => by cases h with | cons q t => exact .cons r t
  | _ :: ds, _, n + 1, h => by cases h with | cons q t => exact .cons q (RpA.set r n t)
theorem RpA.reverse : ∀ {ds : List D} {vs : List V}, RpA K T H vs ds → RpA K T H vs.reverse ds.reverse
  | [], _, h => by cases h; exact .nil
  | d :: ds, _, h => by
    cases h with
    | cons q r =>
      rw [List.reverse_cons, List.reverse_cons]
      exact r.reverse.append (.cons q .nil)
theorem RpA.ints : ∀ {ns : List Int} {vs : List V}, RpA K T H vs (ns.map D.int) → vs = ns.map V.int
  | [], _, h => by cases h; rfl
  | n :: ns, _, h => by
    cases h with
    | cons q r =>
      cases q
      rw [RpA.ints r]
      rfl
theorem RpA.of_ints : ∀ (ns : List Int), RpA K T H (ns.map V.int) (ns.map D.int)
  | [] => .nil
  | n :: ns => .cons (.int n) (RpA.of_ints ns)
theorem RpA.bls : ∀ {ns : List Bool} {vs : List V}, RpA K T H vs (ns.map D.bl) → vs = ns.map V.bl
  | [], _, h => by cases h; rfl
  | n :: ns, _, h => by
    cases h with
    | cons q r =>
      cases q
      rw [RpA.bls r]
      rfl
end
def NoT (o : HO) : Prop := ∀ xs, o ≠ .tup xs
/-- what a body runs over: addresses that are not its own (A), the cells (T), the heap at its entry (He) -/
structure Ct where
  A : Addr → Prop
  T : List Addr
  He : Hp
/-- the heap as the slots' values may lean on it -/
noncomputable def vw (c : Ct) (os : List (Option Addr)) (H : Hp) : Hp := fun b => open Classical in if (c.A b ∨ b ∈ c.T ∨ some b ∈ os) then none else H b
theorem vw_some {c : Ct} {os : List (Option Addr)} {H : Hp} {b : Addr} {o : HO} : vw c os H b = some o ↔ (H b = some o ∧ ¬ c.A b ∧ b ∉ c.T ∧ some b ∉ os) := by
  unfold vw
  by_cases h : (c.A b ∨ b ∈ c.T ∨ some b ∈ os)
  · rw [if_pos h]
    constructor
    · intro z; cases z
    · rintro ⟨_, h1, h2, h3⟩
      rcases h with h | h | h
      · exact absurd h h1
      · exact absurd h h2
      · exact absurd h h3
  · rw [if_neg h]
    constructor
    · intro z
      exact ⟨z, fun q => h (.inl q), fun q => h (.inr (.inl q)), fun q => h (.inr (.inr q))⟩
    · exact fun z => z.1
theorem vw_le {c : Ct} {os : List (Option Addr)} {H : Hp} : Exts (vw c os H) H := fun _ _ h => (vw_some.mp h).1
theorem vw_mono {c : Ct} {os : List (Option Addr)} {H H' : Hp} (e : Exts H H') : Exts (vw c os H) (vw c os H') := fun _ _ h => by
  obtain ⟨h1, h2⟩ := vw_some.mp h
  exact vw_some.mpr ⟨e _ _ h1, h2⟩
theorem vw_os {c : Ct} {os os' : List (Option Addr)} {H : Hp} (e : ∀ a, some a ∈ os' → some a ∈ os) : Exts (vw c os H) (vw c os' H) := fun _ _ h => by
  obtain ⟨h1, h2, h3, h4⟩ := vw_some.mp h
  exact vw_some.mpr ⟨h1, h2, h3, fun q => h4 (e _ q)⟩
/-- an own container at a -/
inductive OwAt (K : PySem.W.Frag) (T : List Addr) (Hv H : Hp) (a : Addr) : D → Prop
  | lst {xs : List V} {ds : List D} : H a = some (.lst xs) → RpA K T Hv xs ds → OwAt K T Hv H a (.lst ds)
  | dk {kvs : List (Key × V)} {ks : List Key} {ds : List D} : H a = some (.dK kvs) → kvs.map Prod.fst = ks → RpA K T Hv (kvs.map Prod.snd) ds → OwAt K T Hv H a (.dk ks ds)
  | dt {kvs : List (List Key × V)} {ks : List (List Key)} {ds : List D} : H a = some (.dT kvs) → kvs.map Prod.fst = ks → RpA K T Hv (kvs.map Prod.snd) ds → OwAt K T Hv H a (.dt ks ds)
theorem OwAt.mono {K : PySem.W.Frag} {T : List Addr} {Hv Hv' H H' : Hp} {a : Addr} {d : D} (e : Exts Hv Hv') (k : ∀ o, H a = some o → H' a = some o) : OwAt K T Hv H a d → OwAt K T Hv' H' a d
  | .lst h r => .lst (k _ h) (r.mono e)
  | .dk h z r => .dk (k _ h) z (r.mono e)
  | .dt h z r => .dt (k _ h) z (r.mono e)
theorem OwAt.there {K : PySem.W.Frag} {T : List Addr} {Hv H : Hp} {a : Addr} {d : D} : OwAt K T Hv H a d → ∃ o, H a = some o
  | .lst h _ => ⟨_, h⟩
  | .dk h _ _ => ⟨_, h⟩
  | .dt h _ _ => ⟨_, h⟩
theorem OwAt.thereN {K : PySem.W.Frag} {T : List Addr} {Hv H : Hp} {a : Addr} {d : D} : OwAt K T Hv H a d → ∃ o, H a = some o ∧ NoT o
  | .lst h _ => ⟨_, h, fun _ q => by cases q⟩
  | .dk h _ _ => ⟨_, h, fun _ q => by cases q⟩
  | .dt h _ _ => ⟨_, h, fun _ q => by cases q⟩
/-- it stands as a value where it may be seen -/
theorem OwAt.rp {K : PySem.W.Frag} {T : List Addr} {Hv Hv' H : Hp} {a : Addr} {d : D} (e : Exts Hv Hv') (k : ∀ o, H a = some o → Hv' a = some o) : OwAt K T Hv H a d → Rp K T Hv' (.ref a) d
  | .lst h r => .lst (k _ h) (r.mono e)
  | .dk h z r => .dk (.inl (k _ h)) z (r.mono e)
  | .dt h z r => .dt (.inl (k _ h)) z (r.mono e)
/-- a slot's word -/
def SlAt (K : PySem.W.Frag) (T : List Addr) (Hv H : Hp) : Option Addr → Sl → Option V → Prop
  | none, .no, _ => True
  | none, .fz d, some v => Rp K T Hv v d
  | some a, .ow d, some v => v = .ref a ∧ OwAt K T Hv H a d
  | _, _, _ => False
structure Rl (K : PySem.W.Frag) (c : Ct) (os : List (Option Addr)) (ρ : Env) (μ : Store) (σ : L2.St) (H : Hp) : Prop where
  lo : os.length = σ.length
  lr : ρ.length = σ.length
  sl : ∀ (i : Nat) (o : Option Addr) (s : Sl) (x : Option V), os[i]? = some o → ρ[i]? = some s → σ[i]? = some x → SlAt K c.T (vw c os H) H o s x
  inj : ∀ (i j : Nat) (a : Addr), os[i]? = some (some a) → os[j]? = some (some a) → i = j
  own : ∀ a, some a ∈ os → a ∉ c.T ∧ ¬ c.A a ∧ c.He a = none
  tA : ∀ a, a ∈ c.T → ¬ c.A a
  tn : c.T.Nodup
  sm : μ.length = c.T.length
  st : ∀ (n : Nat) (a : Addr) (ns : List Int), c.T[n]? = some a → μ[n]? = some ns → H a = some (.lst (ns.map V.int))
  keep : ∀ b o, c.He b = some o → b ∉ c.T → H b = some o
  dom : ∀ b, c.A b → ∃ o, H b = some o ∧ NoT o
section
variable {K : PySem.W.Frag} {c : Ct} {os : List (Option Addr)} {ρ : Env} {μ : Store} {σ : L2.St} {H H' : Hp}
theorem Rl.ownSomeN (r : Rl K c os ρ μ σ H) {a : Addr} (h : some a ∈ os) : ∃ o, H a = some o ∧ NoT o := by
  obtain ⟨i, hi⟩ := List.getElem?_of_mem h
  have hlt : i < os.length := (List.getElem?_eq_some_iff.mp hi).1
  have h1 : i < ρ.length := by rw [r.lr, ← r.lo]; exact hlt
  have h2 : i < σ.length := by rw [← r.lo]; exact hlt
  have q := r.sl i _ _ _ hi (List.getElem?_eq_getElem h1) (List.getElem?_eq_getElem h2)
  cases e1 : ρ[i] with
  | no => rw [e1] at q; simp [SlAt] at q
  | fz d => rw [e1] at q; simp [SlAt] at q
  | ow d =>
    cases e2 : σ[i] with
    | none => rw [e1, e2] at q; simp [SlAt] at q
    | some v => rw [e1, e2] at q; exact q.2.thereN
theorem Rl.ownSome (r : Rl K c os ρ μ σ H) {a : Addr} (h : some a ∈ os) : ∃ o, H a = some o := let ⟨o, e, _⟩ := r.ownSomeN h; ⟨o, e⟩
theorem Rl.cellSome (r : Rl K c os ρ μ σ H) {a : Addr} (h : a ∈ c.T) : ∃ o, H a = some o := by
  obtain ⟨i, hi⟩ := List.getElem?_of_mem h
  have hlt : i < c.T.length := (List.getElem?_eq_some_iff.mp hi).1
  have h1 : i < μ.length := by rw [r.sm]; exact hlt
  exact ⟨_, r.st i a _ hi (List.getElem?_eq_getElem h1)⟩
/-- a new address is none of ours -/
theorem Rl.fresh (r : Rl K c os ρ μ σ H) {p : Addr} (h : H p = none) : ¬ c.A p ∧ p ∉ c.T ∧ some p ∉ os ∧ (c.He p = none) := by
  refine ⟨fun q => ?_, fun q => ?_, fun q => ?_, ?_⟩
  · obtain ⟨o, e, _⟩ := r.dom p q; rw [h] at e; cases e
  · obtain ⟨o, e⟩ := r.cellSome q; rw [h] at e; cases e
  · obtain ⟨o, e⟩ := r.ownSome q; rw [h] at e; cases e
  · cases e : c.He p with
    | none => rfl
    | some o =>
      have nt : p ∉ c.T := fun q => by obtain ⟨o, e⟩ := r.cellSome q; rw [h] at e; cases e
      have := r.keep p o e nt
      rw [h] at this; cases this
/-- all that was stands -/
theorem Rl.grow (r : Rl K c os ρ μ σ H) (e : Exts H H') : Rl K c os ρ μ σ H' where
  lo := r.lo
  lr := r.lr
  sl := fun i o s x h1 h2 h3 => by
    have q := r.sl i o s x h1 h2 h3
    unfold SlAt at q ⊢
    split at q
    · trivial
    · exact q.mono (vw_mono e)
    · exact ⟨q.1, q.2.mono (vw_mono e) (fun o h => e _ _ h)⟩
    · exact q.elim
  inj := r.inj
  own := r.own
  tA := r.tA
  tn := r.tn
  sm := r.sm
  st := fun n a ds h1 h2 => e _ _ (r.st n a ds h1 h2)
  keep := fun b o h1 h2 => e _ _ (r.keep b o h1 h2)
  dom := fun b h => by
    obtain ⟨o, q, n⟩ := r.dom b h
    exact ⟨o, e _ _ q, n⟩
theorem Rl.new (r : Rl K c os ρ μ σ H) {p : Addr} {o : HO} (h : H p = none) : Rl K c os ρ μ σ (upd H p o) := r.grow (Exts.new h)
theorem Rl.seen (r : Rl K c os ρ μ σ H) {p : Addr} {o : HO} (h : H p = none) : vw c os (upd H p o) p = some o := by
  obtain ⟨h1, h2, h3, _⟩ := r.fresh h
  exact vw_some.mpr ⟨upd_same, h1, h2, h3⟩
theorem Rl.newX (r : Rl K c os ρ μ σ H) {p : Addr} {o : HO} (h : H p = none) : Exts (vw c os H) (vw c os (upd H p o)) := vw_mono (Exts.new h)
/-- what stood at the entry, or when the loop began, is seen -/
theorem Rl.seesOld (r : Rl K c os ρ μ σ H) {G : Hp} (h : Exts G c.He) (nT : ∀ b o, G b = some o → b ∉ c.T ∧ ¬ c.A b) : Exts G (vw c os H) := fun b o e => by
  have h1 := h b o e
  obtain ⟨n1, n2⟩ := nT b o e
  refine vw_some.mpr ⟨r.keep b o h1 n1, n2, n1, fun q => ?_⟩
  have := (r.own b q).2.2
  rw [h1] at this; cases this
/-- a value that stands, read -/
theorem Rl.get (r : Rl K c os ρ μ σ H) {i : Nat} {d : D} (h : ρ[i]? = some (.fz d)) : ∃ v, σ[i]? = some (some v) ∧ Rp K c.T (vw c os H) v d ∧ os[i]? = some none := by
  have h0 : i < ρ.length := (List.getElem?_eq_some_iff.mp h).1
  have h1 : i < os.length := by rw [r.lo, ← r.lr]; exact h0
  have h2 : i < σ.length := by rw [← r.lr]; exact h0
  have q := r.sl i _ _ _ (List.getElem?_eq_getElem h1) h (List.getElem?_eq_getElem h2)
  cases e1 : os[i] with
  | some a => rw [e1] at q; simp [SlAt] at q
  | none =>
    cases e2 : σ[i] with
    | none => rw [e1, e2] at q; simp [SlAt] at q
    | some v =>
      rw [e1, e2] at q
      exact ⟨v, by rw [List.getElem?_eq_getElem h2, e2], q, by rw [List.getElem?_eq_getElem h1, e1]⟩
theorem Rl.getOw (r : Rl K c os ρ μ σ H) {i : Nat} {d : D} (h : ρ[i]? = some (.ow d)) : ∃ a, σ[i]? = some (some (.ref a)) ∧ os[i]? = some (some a) ∧ OwAt K c.T (vw c os H) H a d := by
  have h0 : i < ρ.length := (List.getElem?_eq_some_iff.mp h).1
  have h1 : i < os.length := by rw [r.lo, ← r.lr]; exact h0
  have h2 : i < σ.length := by rw [← r.lr]; exact h0
  have q := r.sl i _ _ _ (List.getElem?_eq_getElem h1) h (List.getElem?_eq_getElem h2)
  cases e1 : os[i] with
  | none => rw [e1] at q; cases e2 : σ[i] <;> rw [e2] at q <;> simp [SlAt] at q
  | some a =>
    cases e2 : σ[i] with
    | none => rw [e1, e2] at q; simp [SlAt] at q
    | some v =>
      rw [e1, e2] at q
      obtain ⟨q1, q2⟩ := q
      subst q1
      exact ⟨a, by rw [List.getElem?_eq_getElem h2, e2], by rw [List.getElem?_eq_getElem h1, e1], q2⟩
theorem mem_set_none {os : List (Option Addr)} {i : Nat} {a : Addr} (h : some a ∈ os.set i none) : some a ∈ os := by
  rcases List.mem_or_eq_of_mem_set h with h | h
  · exact h
  · cases h
/-- slot i takes a value that stands -/
theorem Rl.set (r : Rl K c os ρ μ σ H) {i : Nat} {d : D} {v : V} (hv : Rp K c.T (vw c os H) v d) : Rl K c (os.set i none) (ρ.set i (.fz d)) μ (σ.set i (some v)) H := by
  have up : Exts (vw c os H) (vw c (os.set i none) H) := vw_os fun a h => mem_set_none h
  refine ⟨by simp [r.lo], by simp [r.lr], fun j o s x h1 h2 h3 => ?_, fun j k a h1 h2 => ?_, fun a h => r.own a (mem_set_none h), r.tA, r.tn, r.sm, r.st, r.keep, r.dom⟩
  · by_cases hj : i = j
    · subst hj
      have l1 : i < os.length := by have := (List.getElem?_eq_some_iff.mp h1).1; simpa using this
      have l2 : i < ρ.length := by have := (List.getElem?_eq_some_iff.mp h2).1; simpa using this
      have l3 : i < σ.length := by have := (List.getElem?_eq_some_iff.mp h3).1; simpa using this
      rw [List.getElem?_set_self l1] at h1
      rw [List.getElem?_set_self l2] at h2
      rw [List.getElem?_set_self l3] at h3
      cases h1; cases h2; cases h3
      exact hv.mono up
    · rw [List.getElem?_set_ne hj] at h1 h2 h3
      have q := r.sl j o s x h1 h2 h3
      unfold SlAt at q ⊢
      split at q
      · trivial
      · exact q.mono up
      · exact ⟨q.1, q.2.mono up (fun o h => h)⟩
      · exact q.elim
  · have g : ∀ m, (os.set i none)[m]? = some (some a) → os[m]? = some (some a) := fun m hm => by
      by_cases e : i = m
      · subst e
        have l1 : i < os.length := by have := (List.getElem?_eq_some_iff.mp hm).1; simpa using this
        rw [List.getElem?_set_self l1] at hm; cases hm
      · rw [List.getElem?_set_ne e] at hm; exact hm
    exact r.inj j k a (g j h1) (g k h2)
/-- slot i is forgotten -/
theorem Rl.drop (r : Rl K c os ρ μ σ H) {i : Nat} (v : Option V) : Rl K c (os.set i none) (ρ.set i .no) μ (σ.set i v) H := by
  have up : Exts (vw c os H) (vw c (os.set i none) H) := vw_os fun a h => mem_set_none h
  refine ⟨by simp [r.lo], by simp [r.lr], fun j o s x h1 h2 h3 => ?_, fun j k a h1 h2 => ?_, fun a h => r.own a (mem_set_none h), r.tA, r.tn, r.sm, r.st, r.keep, r.dom⟩
  · by_cases hj : i = j
    · subst hj
      have l1 : i < os.length := by have := (List.getElem?_eq_some_iff.mp h1).1; simpa using this
      have l2 : i < ρ.length := by have := (List.getElem?_eq_some_iff.mp h2).1; simpa using this
      rw [List.getElem?_set_self l1] at h1
      rw [List.getElem?_set_self l2] at h2
      cases h1; cases h2
      trivial
    · rw [List.getElem?_set_ne hj] at h1 h2 h3
      have q := r.sl j o s x h1 h2 h3
      unfold SlAt at q ⊢
      split at q
      · trivial
      · exact q.mono up
      · exact ⟨q.1, q.2.mono up (fun o h => h)⟩
      · exact q.elim
  · have g : ∀ m, (os.set i none)[m]? = some (some a) → os[m]? = some (some a) := fun m hm => by
      by_cases e : i = m
      · subst e
        have l1 : i < os.length := by have := (List.getElem?_eq_some_iff.mp hm).1; simpa using this
        rw [List.getElem?_set_self l1] at hm; cases hm
      · rw [List.getElem?_set_ne e] at hm; exact hm
    exact r.inj j k a (g j h1) (g k h2)
end
end DC
set_option Elab.async false
set_option linter.all false
set_option maxRecDepth 100000
set_option maxHeartbeats 2000000
/-! DC: outcomes, readings by denotations, the base rules. -/
namespace DC
open PySem PySem.Spec PyProof.Rows L2
structure Exn where
  k : Nat
  pay : Option (Str × D)
inductive Res (α : Type) where
  | ok (a : α) (μ : Store)
  | exc (x : Exn) (μ : Store)
  | fail
abbrev XD := Env → Store → Res D
abbrev XB := Env → Store → Res Bool
abbrev XL := Env → Store → Res (List D)
def Res.bind {α β : Type} (r : Res α) (k : α → Store → Res β) : Res β := match r with
  | .ok a μ => k a μ
  | .exc x μ => .exc x μ
  | .fail => .fail
def Res.ofO {α : Type} (o : Option α) (μ : Store) : Res α := match o with
  | some a => .ok a μ
  | none => .fail
def Out {α : Type} (r : Res α) (ok : α → Store → Prop) (ex : Exn → Store → Prop) : Prop := match r with
  | .ok a μ => ok a μ
  | .exc x μ => ex x μ
  | .fail => False
theorem Out.bind {α β : Type} {r : Res α} {k : α → Store → Res β} {ok : β → Store → Prop} {ex : Exn → Store → Prop} (h : Out (r.bind k) ok ex) : Out r (fun a μ => Out (k a μ) ok ex) ex := by
  cases r with
  | ok a μ => exact h
  | exc x μ => exact h
  | fail => exact h
theorem Out.imp {α : Type} {r : Res α} {ok ok' : α → Store → Prop} {ex ex' : Exn → Store → Prop} (h : Out r ok ex) (h1 : ∀ a μ, ok a μ → ok' a μ) (h2 : ∀ x μ, ex x μ → ex' x μ) : Out r ok' ex' := by
  cases r with
  | ok a μ => exact h1 _ _ h
  | exc x μ => exact h2 _ _ h
  | fail => exact h
theorem Out.ofO {α : Type} {o : Option α} {μ : Store} {ok : α → Store → Prop} {ex : Exn → Store → Prop} (h : Out (Res.ofO o μ) ok ex) : ∃ a, o = some a ∧ ok a μ := by
  cases o with
  | some a => exact ⟨a, rfl, h⟩
  | none => exact False.elim h
/-- all but the cells stands -/
def Kp (c : Ct) (H H' : Hp) : Prop := ∀ b o, H b = some o → b ∉ c.T → H' b = some o
theorem Kp.refl (c : Ct) (H : Hp) : Kp c H H := fun _ _ h _ => h
theorem Kp.trans {c : Ct} {H H1 H2 : Hp} (a : Kp c H H1) (b : Kp c H1 H2) : Kp c H H2 := fun x o h n => b x o (a x o h n) n
theorem Kp.vw {c : Ct} {os : List (Option Addr)} {H H' : Hp} (k : Kp c H H') : Exts (vw c os H) (vw c os H') := fun b o h => by
  obtain ⟨h1, h2, h3, h4⟩ := vw_some.mp h
  exact vw_some.mpr ⟨k b o h1 h3, h2, h3, h4⟩
theorem Kp.nn {c : Ct} {H H' : Hp} {a : Addr} (k : Kp c H H') (n : H' a = none) (t : a ∉ c.T) : H a = none := by
  cases e : H a with
  | none => rfl
  | some o => rw [k a o e t] at n; cases n
theorem Kp.new {c : Ct} {H : Hp} {a : Addr} {o : HO} (n : H a = none) : Kp c H (upd H a o) := fun b u h _ => by
  rw [upd_ne (ne_of_none h n)]; exact h
/-- how an exception lies: its class, its field -/
def ExAt (K : PySem.W.Frag) (cl : Nat → Addr) (c : Ct) (os : List (Option Addr)) (x : Exn) (e : Value) (dx : Option Addr) (H : Hp) : Prop :=
  e = .ref (cl x.k) ∧ match x.pay with
    | none => dx = none
    | some (f, d) => ∃ a v, dx = some a ∧ H a = some (.xd [(f, v)]) ∧ Rp K c.T (vw c os H) v d
def VOk (K : PySem.W.Frag) (c : Ct) (os : List (Option Addr)) (ρ : Env) (σ : L2.St) (H : Hp) (Q : VK) (d : D) (μ : Store) : Prop :=
  ∀ v H', Rl K c os ρ μ σ H' → Kp c H H' → Rp K c.T (vw c os H') v d → Q v H'
def EOk (K : PySem.W.Frag) (cl : Nat → Addr) (W : WX) (c : Ct) (os : List (Option Addr)) (ρ : Env) (σ : L2.St) (H : Hp) (x : Exn) (μ : Store) : Prop :=
  ∀ e dx H', Rl K c os ρ μ σ H' → Kp c H H' → ExAt K cl c os x e dx H' → W e dx σ H'
section
variable {K : PySem.W.Frag} {cl : Nat → Addr} {W : WX} {c : Ct} {os : List (Option Addr)} {ρ : Env} {μ : Store} {σ : L2.St} {H H' : Hp} {Q : VK} {d : D} {x : Exn}
theorem VOk.mono (e : Kp c H H') (h : VOk K c os ρ σ H Q d μ) : VOk K c os ρ σ H' Q d μ := fun v H2 r e2 p => h v H2 r (e.trans e2) p
theorem EOk.mono (e : Kp c H H') (h : EOk K cl W c os ρ σ H x μ) : EOk K cl W c os ρ σ H' x μ := fun v dx H2 r e2 p => h v dx H2 r (e.trans e2) p
theorem VOk.same (h : VOk K c os ρ σ H Q d μ) (r : Rl K c os ρ μ σ H) {v : V} (p : Rp K c.T (vw c os H) v d) : Q v H := h v H r (Kp.refl _ _) p
/-- a new tuple -/
theorem VOk.newT {ds : List D} {xs : List V} (h : VOk K c os ρ σ H Q (.tup ds) μ) (r : Rl K c os ρ μ σ H) (p : RpA K c.T (vw c os H) xs ds) {a : Addr} (n : H a = none) : Q (.ref a) (upd H a (.tup xs)) :=
  h _ _ (r.new n) (Kp.new n) (.tup (.inl (.inl (r.seen n))) (p.mono (r.newX n)))
theorem VOk.newL {ds : List D} {xs : List V} (h : VOk K c os ρ σ H Q (.lst ds) μ) (r : Rl K c os ρ μ σ H) (p : RpA K c.T (vw c os H) xs ds) {a : Addr} (n : H a = none) : Q (.ref a) (upd H a (.lst xs)) :=
  h _ _ (r.new n) (Kp.new n) (.lst (r.seen n) (p.mono (r.newX n)))
end
/-! ### new containers -/
def Ct.av (c : Ct) (a : Addr) : Ct := { c with A := fun b => c.A b ∨ b = a }
structure Fr (K : PySem.W.Frag) (c : Ct) (os : List (Option Addr)) (ρ : Env) (μ : Store) (σ : L2.St) (H : Hp) (a : Addr) (d : D) : Prop where
  rl : Rl K (c.av a) os ρ μ σ H
  ow : OwAt K c.T (vw (c.av a) os H) H a d
  nA : ¬ c.A a
  nT : a ∉ c.T
  no : some a ∉ os
  he : c.He a = none
section
variable {K : PySem.W.Frag} {c c' : Ct} {os : List (Option Addr)} {ρ : Env} {μ : Store} {σ : L2.St} {H H' : Hp} {a : Addr} {d : D}
theorem Rl.move (r : Rl K c os ρ μ σ H) (eT : c'.T = c.T) (e : Exts (vw c os H) (vw c' os H')) (ow : ∀ b o, some b ∈ os → H b = some o → H' b = some o) (ce : ∀ b o, b ∈ c.T → H b = some o → H' b = some o)
    (own' : ∀ b, some b ∈ os → ¬ c'.A b ∧ c'.He b = none) (tA' : ∀ b, b ∈ c.T → ¬ c'.A b) (keep' : ∀ b o, c'.He b = some o → b ∉ c.T → H' b = some o) (dom' : ∀ b, c'.A b → ∃ o, H' b = some o ∧ NoT o) : Rl K c' os ρ μ σ H' where
  lo := r.lo
  lr := r.lr
  sl := fun i o s x h1 h2 h3 => by
    have q := r.sl i o s x h1 h2 h3
    have hm : ∀ b, o = some b → some b ∈ os := fun b eb => by rw [← eb]; exact List.mem_of_getElem? h1
    rw [eT]
    unfold SlAt at q ⊢
    split at q
    · trivial
    · exact q.mono e
    · exact ⟨q.1, q.2.mono e (fun o h => ow _ _ (hm _ rfl) h)⟩
    · exact q.elim
  inj := r.inj
  own := fun b h => by rw [eT]; exact ⟨(r.own b h).1, own' b h⟩
  tA := fun b h => tA' b (by rw [← eT]; exact h)
  tn := by rw [eT]; exact r.tn
  sm := by rw [eT]; exact r.sm
  st := fun n a ds h1 h2 => by
    rw [eT] at h1
    exact ce _ _ (List.mem_of_getElem? h1) (r.st n a ds h1 h2)
  keep := fun b o h1 h2 => keep' b o h1 (by rw [← eT]; exact h2)
  dom := dom'
theorem vw_av : Exts (vw (c.av a) os H) (vw c os H) := fun b o h => by
  obtain ⟨h1, h2, h3, h4⟩ := vw_some.mp h
  exact vw_some.mpr ⟨h1, fun q => h2 (.inl q), h3, h4⟩
theorem Fr.out (f : Fr K c os ρ μ σ H a d) : Rl K c os ρ μ σ H :=
  f.rl.move rfl vw_av (fun _ _ _ h => h) (fun _ _ _ h => h) (fun b h => ⟨fun q => (f.rl.own b h).2.1 (.inl q), (f.rl.own b h).2.2⟩) (fun b h q => f.rl.tA b h (.inl q)) f.rl.keep (fun b h => f.rl.dom b (.inl h))
theorem Fr.rp (f : Fr K c os ρ μ σ H a d) : Rp K c.T (vw c os H) (.ref a) d := f.ow.rp vw_av fun o h => vw_some.mpr ⟨h, f.nA, f.nT, f.no⟩
theorem Rl.av (r : Rl K c os ρ μ σ H) {o : HO} (n : H a = none) (nt : NoT o := by intro _ q; cases q) : Rl K (c.av a) os ρ μ σ (upd H a o) ∧ Exts (vw c os H) (vw (c.av a) os (upd H a o)) := by
  obtain ⟨h1, h2, h3, h4⟩ := r.fresh n
  have e : Exts (vw c os H) (vw (c.av a) os (upd H a o)) := fun b u h => by
    obtain ⟨q1, q2, q3, q4⟩ := vw_some.mp h
    have nb : b ≠ a := ne_of_none q1 n
    exact vw_some.mpr ⟨by rw [upd_ne nb]; exact q1, fun q => q.elim q2 nb, q3, q4⟩
  refine ⟨r.move rfl e (fun b u hb h => by rw [upd_ne (ne_of_none h n)]; exact h) (fun b u hb h => by rw [upd_ne (ne_of_none h n)]; exact h) (fun b hb => ⟨fun q => q.elim (r.own b hb).2.1 fun z => h3 (by rw [← z]; exact hb), (r.own b hb).2.2⟩)
    (fun b hb q => q.elim (r.tA b hb) fun z => h2 (by rw [← z]; exact hb)) (fun b u q1 q2 => ?_) (fun b q => ?_), e⟩
  · have q := r.keep b u q1 q2
    rw [upd_ne (ne_of_none q n)]; exact q
  · rcases q with q | q
    · obtain ⟨u, z, nu⟩ := r.dom b q
      exact ⟨u, by rw [upd_ne (ne_of_none z n)]; exact z, nu⟩
    · exact ⟨o, by rw [q, upd_same], nt⟩
theorem Rl.frL (r : Rl K c os ρ μ σ H) {xs : List V} {ds : List D} (p : RpA K c.T (vw c os H) xs ds) (n : H a = none) : Fr K c os ρ μ σ (upd H a (.lst xs)) a (.lst ds) ∧ Kp c H (upd H a (.lst xs)) := by
  obtain ⟨h1, h2, h3, h4⟩ := r.fresh n
  obtain ⟨q, e⟩ := r.av (o := .lst xs) n
  exact ⟨⟨q, .lst upd_same (p.mono e), h1, h2, h3, h4⟩, Kp.new n⟩
theorem mem_set_some {os : List (Option Addr)} {i : Nat} {a b : Addr} (h : some b ∈ os.set i (some a)) : some b ∈ os ∨ b = a := by
  rcases List.mem_or_eq_of_mem_set h with h | h
  · exact .inl h
  · exact .inr (Option.some.inj h)
/-- slot i takes the new container -/
theorem Fr.put (f : Fr K c os ρ μ σ H a d) (i : Nat) : Rl K c (os.set i (some a)) (ρ.set i (.ow d)) μ (σ.set i (some (.ref a))) H := by
  have r := f.rl
  have up : Exts (vw (c.av a) os H) (vw c (os.set i (some a)) H) := fun b o h => by
    obtain ⟨h1, h2, h3, h4⟩ := vw_some.mp h
    exact vw_some.mpr ⟨h1, fun q => h2 (.inl q), h3, fun q => (mem_set_some q).elim h4 fun z => h2 (.inr z)⟩
  refine ⟨by simp [r.lo], by simp [r.lr], fun j o s x h1 h2 h3 => ?_, fun j k b h1 h2 => ?_, fun b h => ?_, fun b h q => r.tA b h (.inl q), r.tn, r.sm, r.st, r.keep, fun b h => r.dom b (.inl h)⟩
  · by_cases hj : i = j
    · subst hj
      have l1 : i < os.length := by have := (List.getElem?_eq_some_iff.mp h1).1; simpa using this
      have l2 : i < ρ.length := by have := (List.getElem?_eq_some_iff.mp h2).1; simpa using this
      have l3 : i < σ.length := by have := (List.getElem?_eq_some_iff.mp h3).1; simpa using this
      rw [List.getElem?_set_self l1] at h1
      rw [List.getElem?_set_self l2] at h2
      rw [List.getElem?_set_self l3] at h3
      cases h1; cases h2; cases h3
      exact ⟨rfl, f.ow.mono up fun _ h => h⟩
    · rw [List.getElem?_set_ne hj] at h1 h2 h3
      have q := r.sl j o s x h1 h2 h3
      unfold SlAt at q ⊢
      split at q
      · trivial
      · exact q.mono up
      · exact ⟨q.1, q.2.mono up (fun o h => h)⟩
      · exact q.elim
  · have g : ∀ m, (os.set i (some a))[m]? = some (some b) → (m = i ∧ b = a) ∨ os[m]? = some (some b) := fun m hm => by
      by_cases e : i = m
      · subst e
        have l1 : i < os.length := by have := (List.getElem?_eq_some_iff.mp hm).1; simpa using this
        rw [List.getElem?_set_self l1] at hm; cases hm
        exact .inl ⟨rfl, rfl⟩
      · rw [List.getElem?_set_ne e] at hm; exact .inr hm
    have na : ∀ m, os[m]? = some (some a) → False := fun m hm => f.no (List.mem_of_getElem? hm)
    rcases g j h1 with ⟨z1, z2⟩ | z
    · rcases g k h2 with ⟨y1, y2⟩ | y
      · rw [z1, y1]
      · subst z2; exact (na k y).elim
    · rcases g k h2 with ⟨y1, y2⟩ | y
      · subst y2; exact (na j z).elim
      · exact r.inj j k b z y
  · rcases mem_set_some h with z | z
    · exact ⟨(r.own b z).1, fun q => (r.own b z).2.1 (.inl q), (r.own b z).2.2⟩
    · subst z; exact ⟨f.nT, f.nA, f.he⟩
/-- an own container stands as a value from now on -/
theorem Rl.freeze (r : Rl K c os ρ μ σ H) {i : Nat} (h : ρ[i]? = some (.ow d)) : Rl K c (os.set i none) (ρ.set i (.fz d)) μ σ H := by
  obtain ⟨a, h1, h2, h3⟩ := r.getOw h
  have l1 : i < σ.length := (List.getElem?_eq_some_iff.mp h1).1
  have nin : some a ∉ os.set i none := fun q => by
    obtain ⟨j, hj⟩ := List.getElem?_of_mem q
    by_cases e : i = j
    · subst e
      have l2 : i < os.length := by rw [r.lo]; exact l1
      rw [List.getElem?_set_self l2] at hj; cases hj
    · rw [List.getElem?_set_ne e] at hj
      exact e (r.inj i j a h2 hj)
  have hm : some a ∈ os := List.mem_of_getElem? h2
  have up : Exts (vw c os H) (vw c (os.set i none) H) := vw_os fun b hb => mem_set_none hb
  have hp : Rp K c.T (vw c (os.set i none) H) (.ref a) d := h3.rp up fun o ho => vw_some.mpr ⟨ho, (r.own a hm).2.1, (r.own a hm).1, nin⟩
  have q := (r.drop (i := i) (some (.ref a))).set (i := i) hp
  have e1 : (σ.set i (some (V.ref a))).set i (some (V.ref a)) = σ := by
    rw [List.set_set]
    apply List.ext_getElem?
    intro j
    by_cases e : i = j
    · subst e; rw [List.getElem?_set_self l1, h1]
    · rw [List.getElem?_set_ne e]
  have e2 : (ρ.set i Sl.no).set i (.fz d) = ρ.set i (.fz d) := List.set_set ..
  have e3 : (os.set i none).set i none = os.set i none := List.set_set ..
  rw [e1, e2, e3] at q
  exact q
/-- an own container is changed -/
theorem Rl.change (r : Rl K c os ρ μ σ H) {i : Nat} {d' : D} {o : HO} (h1 : σ[i]? = some (some (.ref a))) (h2 : os[i]? = some (some a)) (hn : OwAt K c.T (vw c os H) (upd H a o) a d') : Rl K c os (ρ.set i (.ow d')) μ σ (upd H a o) := by
  have hm : some a ∈ os := List.mem_of_getElem? h2
  have ev : vw c os (upd H a o) = vw c os H := by
    funext b
    unfold vw
    by_cases hb : (c.A b ∨ b ∈ c.T ∨ some b ∈ os)
    · rw [if_pos hb, if_pos hb]
    · rw [if_neg hb, if_neg hb, upd_ne]
      rintro rfl
      exact hb (.inr (.inr hm))
  refine ⟨r.lo, by simp [r.lr], fun j u s x q1 q2 q3 => ?_, r.inj, r.own, r.tA, r.tn, r.sm, fun n b ds q1 q2 => ?_, fun b u q1 q2 => ?_, fun b q => ?_⟩
  · rw [ev]
    by_cases hj : i = j
    · subst hj
      have l2 : i < ρ.length := by have := (List.getElem?_eq_some_iff.mp q2).1; simpa using this
      rw [List.getElem?_set_self l2] at q2
      rw [h2] at q1
      rw [h1] at q3
      cases q1; cases q2; cases q3
      exact ⟨rfl, hn⟩
    · rw [List.getElem?_set_ne hj] at q2
      have q := r.sl j u s x q1 q2 q3
      have hu : ∀ b, u = some b → b ≠ a := fun b eb z => by
        subst eb
        subst z
        exact hj (r.inj i j b h2 q1)
      unfold SlAt at q ⊢
      split at q
      · trivial
      · exact q
      · refine ⟨q.1, q.2.mono (Exts.refl _) (fun w hw => ?_)⟩
        rw [upd_ne (hu _ rfl)]; exact hw
      · exact q.elim
  · have nb : b ≠ a := fun z => by subst z; exact (r.own b hm).1 (List.mem_of_getElem? q1)
    rw [upd_ne nb]; exact r.st n b ds q1 q2
  · have nb : b ≠ a := fun z => by
      subst z
      have := (r.own b hm).2.2
      rw [q1] at this; cases this
    rw [upd_ne nb]
    exact r.keep b u q1 q2
  · obtain ⟨u, z, nu⟩ := r.dom b q
    have nb : b ≠ a := fun z => by subst z; exact (r.own b hm).2.1 q
    exact ⟨u, by rw [upd_ne nb]; exact z, nu⟩
/-- a cell is changed -/
theorem Rl.setCell (r : Rl K c os ρ μ σ H) {n : Nat} {ns : List Int} (h : c.T[n]? = some a) : Rl K c os ρ (μ.set n ns) σ (upd H a (.lst (ns.map V.int))) ∧ Kp c H (upd H a (.lst (ns.map V.int))) := by
  have hm : a ∈ c.T := List.mem_of_getElem? h
  have ev : vw c os (upd H a (.lst (ns.map V.int))) = vw c os H := by
    funext b
    unfold vw
    by_cases hb : (c.A b ∨ b ∈ c.T ∨ some b ∈ os)
    · rw [if_pos hb, if_pos hb]
    · rw [if_neg hb, if_neg hb, upd_ne]
      rintro rfl
      exact hb (.inr (.inl hm))
  refine ⟨⟨r.lo, r.lr, fun j u s x q1 q2 q3 => ?_, r.inj, r.own, r.tA, r.tn, by simp [r.sm], fun m b es q1 q2 => ?_, fun b u q1 q2 => ?_, fun b q => ?_⟩, fun b u h n => by rw [upd_ne (fun z => n (by rw [z]; exact hm))]; exact h⟩
  · rw [ev]
    have q := r.sl j u s x q1 q2 q3
    have hu : ∀ b, u = some b → b ≠ a := fun b eb z => by
      subst eb
      subst z
      exact (r.own b (List.mem_of_getElem? q1)).1 hm
    unfold SlAt at q ⊢
    split at q
    · trivial
    · exact q
    · refine ⟨q.1, q.2.mono (Exts.refl _) (fun w hw => ?_)⟩
      rw [upd_ne (hu _ rfl)]; exact hw
    · exact q.elim
  · by_cases hj : n = m
    · subst hj
      rw [h] at q1; cases q1
      have l2 : n < μ.length := by have := (List.getElem?_eq_some_iff.mp q2).1; simpa using this
      rw [List.getElem?_set_self l2] at q2
      cases q2
      exact upd_same
    · rw [List.getElem?_set_ne hj] at q2
      have q3 := r.st m b es q1 q2
      have nb : b ≠ a := fun z => by
        subst z
        have l1 : n < c.T.length := (List.getElem?_eq_some_iff.mp h).1
        have l2 : m < c.T.length := (List.getElem?_eq_some_iff.mp q1).1
        have e1 := (List.getElem?_eq_some_iff.mp h).2
        have e2 := (List.getElem?_eq_some_iff.mp q1).2
        exact hj ((List.getElem_inj r.tn).mp (e1.trans e2.symm))
      rw [upd_ne nb]; exact q3
  · have nb : b ≠ a := fun z => by subst z; exact q2 hm
    rw [upd_ne nb]
    exact r.keep b u q1 q2
  · obtain ⟨u, z, nu⟩ := r.dom b q
    have nb : b ≠ a := fun z => by subst z; exact r.tA b hm q
    exact ⟨u, by rw [upd_ne nb]; exact z, nu⟩
/-- an own container was lent as a value; it is own again -/
theorem Rl.reown (r : Rl K c os ρ μ σ H) {i : Nat} {μ' : Store} (q : Rl K c (os.set i none) (ρ.set i (.fz d)) μ' σ H') (k : Kp c H H') : Rl K c os ρ μ' σ H' where
  lo := r.lo
  lr := r.lr
  sl := fun j o s x h1 h2 h3 => by
    have z := r.sl j o s x h1 h2 h3
    have hm : ∀ b, o = some b → b ∉ c.T := fun b eb => (r.own b (by rw [← eb]; exact List.mem_of_getElem? h1)).1
    unfold SlAt at z ⊢
    split at z
    · trivial
    · exact z.mono k.vw
    · exact ⟨z.1, z.2.mono k.vw (fun o h => k _ _ h (hm _ rfl))⟩
    · exact z.elim
  inj := r.inj
  own := r.own
  tA := r.tA
  tn := r.tn
  sm := q.sm
  st := q.st
  keep := fun b o h1 h2 => k b o (r.keep b o h1 h2) h2
  dom := fun b h => by
    obtain ⟨o, z, nu⟩ := r.dom b h
    exact ⟨o, k b o z fun y => r.tA b y h, nu⟩
end
end DC
set_option Elab.async false
set_option linter.all false
set_option maxRecDepth 100000
set_option maxHeartbeats 2000000
/-! DC: readings of expressions, tests, arguments; calls of defs. -/
namespace DC
open PySem PySem.Spec PyProof.Rows L2
def FOk (K : PySem.W.Frag) (c : Ct) (os : List (Option Addr)) (ρ : Env) (σ : L2.St) (H : Hp) (Q : VK) (d : D) (μ : Store) : Prop :=
  ∀ a H', Fr K c os ρ μ σ H' a d → Kp c H H' → H a = none → Q (.ref a) H'
theorem FOk.mono {K : PySem.W.Frag} {c : Ct} {os : List (Option Addr)} {ρ : Env} {μ : Store} {σ : L2.St} {H H' : Hp} {Q : VK} {d : D} (e : Kp c H H') (h : FOk K c os ρ σ H Q d μ) : FOk K c os ρ σ H' Q d μ := fun a H2 f e2 n => h a H2 f (e.trans e2) (e.nn n f.nT)
theorem VOk.f {K : PySem.W.Frag} {c : Ct} {os : List (Option Addr)} {ρ : Env} {μ : Store} {σ : L2.St} {H : Hp} {Q : VK} {d : D} (h : VOk K c os ρ σ H Q d μ) : FOk K c os ρ σ H Q d μ := fun a H2 f e2 _ => h _ _ f.out e2 f.rp
theorem FOk.newL {K : PySem.W.Frag} {c : Ct} {os : List (Option Addr)} {ρ : Env} {μ : Store} {σ : L2.St} {H : Hp} {Q : VK} {ds : List D} {xs : List V} (h : FOk K c os ρ σ H Q (.lst ds) μ) (r : Rl K c os ρ μ σ H) (p : RpA K c.T (vw c os H) xs ds) {a : Addr} (n : H a = none) : Q (.ref a) (upd H a (.lst xs)) := by
  obtain ⟨f, e⟩ := r.frL p n
  exact h a _ f e n
/-- the readings -/
def tE (K : PySem.W.Frag) (cl : Nat → Addr) (W : WX) (f : XD) : TE := fun σ H Q => ∃ c os ρ μ, Rl K c os ρ μ σ H ∧ Out (f ρ μ) (VOk K c os ρ σ H Q) (EOk K cl W c os ρ σ H)
def tF (K : PySem.W.Frag) (cl : Nat → Addr) (W : WX) (f : XD) : TE := fun σ H Q => ∃ c os ρ μ, Rl K c os ρ μ σ H ∧ Out (f ρ μ) (FOk K c os ρ σ H Q) (EOk K cl W c os ρ σ H)
def tT (K : PySem.W.Frag) (cl : Nat → Addr) (W : WX) (f : XB) : TT := fun σ H Q => ∃ c os ρ μ, Rl K c os ρ μ σ H ∧ Out (f ρ μ) (fun b μ' => ∀ H', Rl K c os ρ μ' σ H' → Kp c H H' → Q b H') (EOk K cl W c os ρ σ H)
def tL (K : PySem.W.Frag) (cl : Nat → Addr) (W : WX) (f : XL) : TA := fun σ H Q => ∃ c os ρ μ, Rl K c os ρ μ σ H ∧ Out (f ρ μ) (fun ds μ' => ∀ vs H', Rl K c os ρ μ' σ H' → Kp c H H' → RpA K c.T (vw c os H') vs ds → Q vs H') (EOk K cl W c os ρ σ H)
theorem pe_imp {X : Cx} {e : Expr} {t t' : TE} (h : PE X e t) (i : ∀ σ H Q, t' σ H Q → t σ H Q) : PE X e t' := ⟨fun pins s σ H Q I q => h.run pins s σ H Q I (i σ H Q q)⟩
theorem pt_imp {X : Cx} {e : Expr} {t t' : TT} (h : PT X e t) (i : ∀ σ H Q, t' σ H Q → t σ H Q) : PT X e t' := ⟨fun pins s σ H Q I q => h.run pins s σ H Q I (i σ H Q q)⟩
theorem pw_imp {X : Cx} {e : Expr} {t t' : TT} (h : PW X e t) (i : ∀ σ H Q, t' σ H Q → t σ H Q) : PW X e t' := ⟨fun wh pins s σ H Q I q => h.run wh pins s σ H Q I (i σ H Q q)⟩
theorem pa_imp {X : Cx} {es : List Expr} {t t' : TA} (h : PA X es t) (i : ∀ σ H Q, t' σ H Q → t σ H Q) : PA X es t' := ⟨fun pos pins s σ H Q I q => h.run pos pins s σ H Q I (i σ H Q q)⟩
theorem Rp.inv_bl {K : PySem.W.Frag} {T : List Addr} {H : Hp} {v : V} {k : Bool} (h : Rp K T H v (.bl k)) : v = .bl k := by
  cases h; rfl
theorem Rp.inv_int {K : PySem.W.Frag} {T : List Addr} {H : Hp} {v : V} {k : Int} (h : Rp K T H v (.int k)) : v = .int k := by
  cases h; rfl
theorem Rp.inv_str {K : PySem.W.Frag} {T : List Addr} {H : Hp} {v : V} {x : Str} (h : Rp K T H v (.str x)) : v = .str x ∧ strOk x = true := by
  cases h with | str q => exact ⟨rfl, q⟩
theorem Rp.inv_non {K : PySem.W.Frag} {T : List Addr} {H : Hp} {v : V} (h : Rp K T H v .non) : v = .non := by
  cases h; rfl
theorem Rp.inv_tup {K : PySem.W.Frag} {T : List Addr} {H : Hp} {v : V} {ds : List D} (h : Rp K T H v (.tup ds)) : ∃ a xs, v = .ref a ∧ SqT K H a xs ∧ RpA K T H xs ds := by
  cases h with | tup q r => exact ⟨_, _, rfl, q, r⟩
theorem Rp.inv_lst {K : PySem.W.Frag} {T : List Addr} {H : Hp} {v : V} {ds : List D} (h : Rp K T H v (.lst ds)) : ∃ a xs, v = .ref a ∧ H a = some (.lst xs) ∧ RpA K T H xs ds := by
  cases h with | lst q r => exact ⟨_, _, rfl, q, r⟩
theorem Rp.inv_scr {K : PySem.W.Frag} {T : List Addr} {H : Hp} {v : V} {ns : List Int} (h : Rp K T H v (.scr ns)) : ∃ a, v = .ref a ∧ SqL K H a (ns.map V.int) := by
  cases h with | scr q => exact ⟨_, rfl, q⟩
theorem Rp.inv_own {K : PySem.W.Frag} {T : List Addr} {H : Hp} {v : V} {n : Nat} (h : Rp K T H v (.own n)) : ∃ a, v = .ref a ∧ T[n]? = some a := by
  cases h with | own q => exact ⟨_, rfl, q⟩
theorem Rp.inv_dk {K : PySem.W.Frag} {T : List Addr} {H : Hp} {v : V} {ks : List Key} {ds : List D} (h : Rp K T H v (.dk ks ds)) : ∃ a kvs, v = .ref a ∧ Rd H a (.dK kvs) ∧ kvs.map Prod.fst = ks ∧ RpA K T H (kvs.map Prod.snd) ds := by
  cases h with | dk q z r => exact ⟨_, _, rfl, q, z, r⟩
theorem Rp.inv_dt {K : PySem.W.Frag} {T : List Addr} {H : Hp} {v : V} {ks : List (List Key)} {ds : List D} (h : Rp K T H v (.dt ks ds)) : ∃ a kvs, v = .ref a ∧ Rd H a (.dT kvs) ∧ kvs.map Prod.fst = ks ∧ RpA K T H (kvs.map Prod.snd) ds := by
  cases h with | dt q z r => exact ⟨_, _, rfl, q, z, r⟩
/-! ### denotations -/
def xVar (i : Nat) : XD := fun ρ μ => match ρ[i]? with
  | some (.fz d) => .ok d μ
  | _ => .fail
def xC (d : D) : XD := fun _ μ => .ok d μ
def xBin (g : D → D → Option D) (f1 f2 : XD) : XD := fun ρ μ => (f1 ρ μ).bind fun a μ1 => (f2 ρ μ1).bind fun b μ2 => Res.ofO (g a b) μ2
def xUn (g : D → Option D) (f : XD) : XD := fun ρ μ => (f ρ μ).bind fun a μ1 => Res.ofO (g a) μ1
def asB : D → Option Bool
  | .bl b => some b
  | _ => none
def xChain (g g' : D → D → Option D) (f1 f2 f3 : XD) : XD := fun ρ μ => (f1 ρ μ).bind fun a μ1 => (f2 ρ μ1).bind fun b μ2 => (Res.ofO ((g a b).bind asB) μ2).bind fun k μ2 =>
  if k then (f3 ρ μ2).bind fun c μ3 => Res.ofO (g' b c) μ3 else .ok (.bl false) μ2
def xAnd (f1 f2 : XD) : XD := fun ρ μ => (f1 ρ μ).bind fun a μ1 => (Res.ofO (asB a) μ1).bind fun k μ1 => if k then f2 ρ μ1 else .ok (.bl false) μ1
def xOr (f1 f2 : XD) : XD := fun ρ μ => (f1 ρ μ).bind fun a μ1 => (Res.ofO (asB a) μ1).bind fun k μ1 => if k then .ok (.bl true) μ1 else f2 ρ μ1
def xNot (f : XD) : XD := fun ρ μ => (f ρ μ).bind fun a μ1 => (Res.ofO (asB a) μ1).bind fun k μ1 => .ok (.bl (!k)) μ1
def xIf (t : XB) (f1 f2 : XD) : XD := fun ρ μ => (t ρ μ).bind fun k μ1 => if k then f1 ρ μ1 else f2 ρ μ1
def bVal (f : XD) : XB := fun ρ μ => (f ρ μ).bind fun a μ1 => Res.ofO (asB a) μ1
def bAnd (f1 f2 : XB) : XB := fun ρ μ => (f1 ρ μ).bind fun k μ1 => if k then f2 ρ μ1 else .ok false μ1
def bOr (f1 f2 : XB) : XB := fun ρ μ => (f1 ρ μ).bind fun k μ1 => if k then .ok true μ1 else f2 ρ μ1
def bNot (f : XB) : XB := fun ρ μ => (f ρ μ).bind fun k μ1 => .ok (!k) μ1
def lNil : XL := fun _ μ => .ok [] μ
def lCons (f : XD) (fs : XL) : XL := fun ρ μ => (f ρ μ).bind fun d μ1 => (fs ρ μ1).bind fun ds μ2 => .ok (d :: ds) μ2
def lenOk {α : Type} (xs : List α) : Bool := Nat.ble xs.length 1000000
theorem lenOk_le {α : Type} {xs : List α} (h : lenOk xs = true) : xs.length ≤ sizeLine := Nat.le_trans (Nat.le_of_ble_eq_true h) (by rw [sizeLine_eq]; decide)
def xTup (fs : XL) : XD := fun ρ μ => (fs ρ μ).bind fun ds μ1 => if lenOk ds then .ok (.tup ds) μ1 else .fail
def xLst (fs : XL) : XD := fun ρ μ => (fs ρ μ).bind fun ds μ1 => if lenOk ds then .ok (.lst ds) μ1 else .fail
def xCall (g : List D → Store → Res D) (fs : XL) : XD := fun ρ μ => (fs ρ μ).bind fun ds μ1 => g ds μ1
def xCb (g : List D → Option D) (fs : XL) : XD := fun ρ μ => (fs ρ μ).bind fun ds μ1 => Res.ofO (g ds) μ1
section
variable {X : Cx} {cl : Nat → Addr} {W : WX} {a b e : Expr} {f f1 f2 f3 : XD} {pos : Pos}
/-! ### names, constants -/
theorem dVar {i : Nat} {x : Str} {p : Pos} (h : PE X (.Name x p) (tVar i)) : PE X (.Name x p) (tE X.K cl W (xVar i)) := pe_imp h fun σ H Q => by
  rintro ⟨c, os, ρ, μ, r, h⟩
  unfold xVar at h
  split at h
  · rename_i d e
    obtain ⟨v, h1, h2, _⟩ := r.get e
    exact ⟨v, h1, VOk.same h r h2⟩
  · exact False.elim h
theorem dC {v : V} {d : D} (h : PE X e (tC v)) (hp : ∀ T Hv, Rp X.K T Hv v d) : PE X e (tE X.K cl W (xC d)) := pe_imp h fun σ H Q => by
  rintro ⟨c, os, ρ, μ, r, h⟩
  exact VOk.same h r (hp _ _)
theorem dInt {i : Int} {j : Nat} {p : Pos} : PE X (.Constant (.int i) j p) (tE X.K cl W (xC (.int i))) := dC pe_int fun _ _ => .int i
theorem dBl {k : Bool} {j : Nat} {p : Pos} : PE X (.Constant (.bool k) j p) (tE X.K cl W (xC (.bl k))) := dC pe_bl fun _ _ => .bl k
theorem dNon {j : Nat} {p : Pos} : PE X (.Constant .none j p) (tE X.K cl W (xC .non)) := dC pe_non fun _ _ => .non
theorem dStr {x : Str} {j : Nat} {p : Pos} (h : strOk x = true := by decide +kernel) : PE X (.Constant (.str x) j p) (tE X.K cl W (xC (.str x))) := dC pe_str fun _ _ => .str h
theorem dFE {e : Expr} (h : PE X e (tF X.K cl W f)) : PE X e (tE X.K cl W f) := pe_imp h fun σ H Q => by
  rintro ⟨c, os, ρ, μ, r, h⟩
  exact ⟨c, os, ρ, μ, r, h.imp (fun d μ' q => q.f) fun _ _ q => q⟩
/-! ### operators -/
def Op2 (K : PySem.W.Frag) (r : R2) (g : D → D → Option D) : Prop := ∀ {c : Ct} {os : List (Option Addr)} {ρ : Env} {μ : Store} {σ : L2.St} {H : Hp} {x y : V} {d1 d2 d : D} {Q : VK}, Rl K c os ρ μ σ H → Rp K c.T (vw c os H) x d1 → Rp K c.T (vw c os H) y d2 → g d1 d2 = some d → VOk K c os ρ σ H Q d μ → r x y H Q
def Op2F (K : PySem.W.Frag) (r : R2) (g : D → D → Option D) : Prop := ∀ {c : Ct} {os : List (Option Addr)} {ρ : Env} {μ : Store} {σ : L2.St} {H : Hp} {x y : V} {d1 d2 d : D} {Q : VK}, Rl K c os ρ μ σ H → Rp K c.T (vw c os H) x d1 → Rp K c.T (vw c os H) y d2 → g d1 d2 = some d → FOk K c os ρ σ H Q d μ → r x y H Q
theorem Op2F.v {K : PySem.W.Frag} {r : R2} {g : D → D → Option D} (h : Op2F K r g) : Op2 K r g := fun r' p1 p2 e q => h r' p1 p2 e q.f
def Op1 (K : PySem.W.Frag) (r : V → Hp → VK → Prop) (g : D → Option D) : Prop := ∀ {c : Ct} {os : List (Option Addr)} {ρ : Env} {μ : Store} {σ : L2.St} {H : Hp} {x : V} {d1 d : D} {Q : VK}, Rl K c os ρ μ σ H → Rp K c.T (vw c os H) x d1 → g d1 = some d → VOk K c os ρ σ H Q d μ → r x H Q
theorem bin_imp {r : R2} {g : D → D → Option D} (hs : Op2 X.K r g) (σ : L2.St) (H : Hp) (Q : VK) (h : tE X.K cl W (xBin g f1 f2) σ H Q) : tOp r (tE X.K cl W f1) (tE X.K cl W f2) σ H Q := by
  obtain ⟨c, os, ρ, μ, r, h⟩ := h
  refine ⟨c, os, ρ, μ, r, (Out.bind h).imp (fun d1 μ1 h1 => ?_) fun _ _ q => q⟩
  intro v1 H1 r1 e1 p1
  refine ⟨c, os, ρ, μ1, r1, (Out.bind h1).imp (fun d2 μ2 h2 => ?_) fun _ _ q => q.mono e1⟩
  intro v2 H2 r2 e2 p2
  obtain ⟨d, e, h3⟩ := Out.ofO h2
  exact hs r2 (p1.mono e2.vw) p2 e (VOk.mono (e1.trans e2) h3)
theorem binF_imp {r : R2} {g : D → D → Option D} (hs : Op2F X.K r g) (σ : L2.St) (H : Hp) (Q : VK) (h : tF X.K cl W (xBin g f1 f2) σ H Q) : tOp r (tE X.K cl W f1) (tE X.K cl W f2) σ H Q := by
  obtain ⟨c, os, ρ, μ, r, h⟩ := h
  refine ⟨c, os, ρ, μ, r, (Out.bind h).imp (fun d1 μ1 h1 => ?_) fun _ _ q => q⟩
  intro v1 H1 r1 e1 p1
  refine ⟨c, os, ρ, μ1, r1, (Out.bind h1).imp (fun d2 μ2 h2 => ?_) fun _ _ q => q.mono e1⟩
  intro v2 H2 r2 e2 p2
  obtain ⟨d, e, h3⟩ := Out.ofO h2
  exact hs r2 (p1.mono e2.vw) p2 e (FOk.mono (e1.trans e2) h3)
theorem dBin {op : Operator} {r : R2} {g : D → D → Option D} (ho : OpR X (binaryOp op) r) (hs : Op2 X.K r g) (ha : PE X a (tE X.K cl W f1)) (hb : PE X b (tE X.K cl W f2)) : PE X (.BinOp a op b pos) (tE X.K cl W (xBin g f1 f2)) := pe_imp (pe_op ho ha hb) (bin_imp hs)
theorem dBinF {op : Operator} {r : R2} {g : D → D → Option D} (ho : OpR X (binaryOp op) r) (hs : Op2F X.K r g) (ha : PE X a (tE X.K cl W f1)) (hb : PE X b (tE X.K cl W f2)) : PE X (.BinOp a op b pos) (tF X.K cl W (xBin g f1 f2)) := pe_imp (pe_op ho ha hb) (binF_imp hs)
theorem dUn {op : UnaryOp} {r : V → Hp → VK → Prop} {g : D → Option D} (ho : UnR X (unaryOp op) r) (hs : Op1 X.K r g) (ha : PE X a (tE X.K cl W f)) : PE X (.UnaryOp op a pos) (tE X.K cl W (xUn g f)) := pe_imp (pe_un ho ha) fun σ H Q => by
  rintro ⟨c, os, ρ, μ, r, h⟩
  refine ⟨c, os, ρ, μ, r, (Out.bind h).imp (fun d1 μ1 h1 => ?_) fun _ _ q => q⟩
  intro v1 H1 r1 e1 p1
  obtain ⟨d, e, h3⟩ := Out.ofO h1
  exact hs r1 p1 e (VOk.mono e1 h3)
theorem dCmp {op : CmpOp} {r : R2} {g : D → D → Option D} (ho : OpR X (compareOp op) r) (hs : Op2 X.K r g) (ha : PE X a (tE X.K cl W f1)) (hb : PE X b (tE X.K cl W f2)) (hm : behindInMarks op b = false) : PE X (.Compare a [op] [b] pos) (tE X.K cl W (xBin g f1 f2)) := pe_imp (pe_cmpR ho ha hb hm) (bin_imp hs)
theorem val_imp {t : TE} (hi : ∀ σ H Q, tE X.K cl W f σ H Q → t σ H Q) (σ : L2.St) (H : Hp) (Q : Bool → Hp → Prop) (h : tT X.K cl W (bVal f) σ H Q) : t σ H fun x H' => ∃ k, x = .bl k ∧ Q k H' := by
  obtain ⟨c, os, ρ, μ, r, h⟩ := h
  refine hi σ H _ ⟨c, os, ρ, μ, r, (Out.bind h).imp (fun d1 μ1 h1 => ?_) fun _ _ q => q⟩
  intro v1 H1 r1 e1 p1
  obtain ⟨k, e, h3⟩ := Out.ofO h1
  cases d1 with
  | bl kb =>
    have z := p1.inv_bl
    subst z
    cases e
    exact ⟨k, rfl, h3 H1 r1 e1⟩
  | _ => cases e
theorem bCmp {op : CmpOp} {r : R2} {g : D → D → Option D} (ho : OpR X (compareOp op) r) (hs : Op2 X.K r g) (ha : PE X a (tE X.K cl W f1)) (hb : PE X b (tE X.K cl W f2)) (hm : behindInMarks op b = false) : PT X (.Compare a [op] [b] pos) (tT X.K cl W (bVal (xBin g f1 f2))) := pt_imp (pt_cmpR ho ha hb hm) (val_imp (bin_imp hs))
theorem chain_imp {r r' : R2} {g g' : D → D → Option D} (hs : Op2 X.K r g) (hs' : Op2 X.K r' g') (σ : L2.St) (H : Hp) (Q : VK) (h : tE X.K cl W (xChain g g' f1 f2 f3) σ H Q) : tChain r r' (tE X.K cl W f1) (tE X.K cl W f2) (tE X.K cl W f3) σ H Q := by
  obtain ⟨c, os, ρ, μ, r, h⟩ := h
  refine ⟨c, os, ρ, μ, r, (Out.bind h).imp (fun d1 μ1 h1 => ?_) fun _ _ q => q⟩
  intro v1 H1 r1 e1 p1
  refine ⟨c, os, ρ, μ1, r1, (Out.bind h1).imp (fun d2 μ2 h2 => ?_) fun _ _ q => q.mono e1⟩
  intro v2 H2 r2 e2 p2
  obtain ⟨k, e, h3⟩ := Out.ofO (Out.bind h2)
  obtain ⟨dk, ek, ek'⟩ := Option.bind_eq_some_iff.mp e
  refine hs r2 (p1.mono e2.vw) p2 ek (fun v3 H3 r3 e3 p3 => ?_)
  cases dk with
  | bl kk =>
    have z := p3.inv_bl
    subst z
    cases ek'
    refine ⟨k, rfl, ?_⟩
    cases k with
    | true =>
      rw [if_pos rfl]
      rw [if_pos rfl] at h3
      refine ⟨c, os, ρ, μ2, r3, (Out.bind h3).imp (fun d4 μ4 h4 => ?_) fun _ _ q => q.mono ((e1.trans e2).trans e3)⟩
      intro v4 H4 r4 e4 p4
      obtain ⟨d, e', h5⟩ := Out.ofO h4
      exact hs' r4 (p2.mono (e3.trans e4).vw) p4 e' (VOk.mono (((e1.trans e2).trans e3).trans e4) h5)
    | false =>
      rw [if_neg Bool.false_ne_true]
      rw [if_neg Bool.false_ne_true] at h3
      exact VOk.same (VOk.mono ((e1.trans e2).trans e3) h3) r3 (.bl false)
  | _ => cases ek'
theorem dChain {op op' : CmpOp} {r r' : R2} {g g' : D → D → Option D} {c : Expr} (ho : OpR X (compareOp op) r) (hs : Op2 X.K r g) (ho' : OpR X (compareOp op') r') (hs' : Op2 X.K r' g') (ha : PE X a (tE X.K cl W f1)) (hb : PE X b (tE X.K cl W f2)) (hc : PE X c (tE X.K cl W f3))
    (hm : lastMarks [op, op'] [b, c] = false := by with_unfolding_all rfl) : PE X (.Compare a [op, op'] [b, c] pos) (tE X.K cl W (xChain g g' f1 f2 f3)) := pe_imp (pe_chain ho ho' ha hb hc hm) (chain_imp hs hs')
theorem bChain {op op' : CmpOp} {r r' : R2} {g g' : D → D → Option D} {c : Expr} (ho : OpR X (compareOp op) r) (hs : Op2 X.K r g) (ho' : OpR X (compareOp op') r') (hs' : Op2 X.K r' g') (ha : PE X a (tE X.K cl W f1)) (hb : PE X b (tE X.K cl W f2)) (hc : PE X c (tE X.K cl W f3))
    (hm : lastMarks [op, op'] [b, c] = false := by with_unfolding_all rfl) : PT X (.Compare a [op, op'] [b, c] pos) (tT X.K cl W (bVal (xChain g g' f1 f2 f3))) := pt_imp (pt_chain ho ho' ha hb hc hm) (val_imp (chain_imp hs hs'))
theorem bValE (h : PE X e (tE X.K cl W f)) (he : ∀ whole, isTrue e X.env whole = (do let v ← whole; standAt e.pos; holding [v] (truthy v)) := by intro _; rfl) : PT X e (tT X.K cl W (bVal f)) := pt_imp (pt_val h he) (val_imp fun _ _ _ q => q)
/-! ### and, or, not, if -/
variable {rest : List Expr}
theorem dOne {op : BoolOp} (h : PE X a (tE X.K cl W f)) : PE X (.BoolOp op [a] pos) (tE X.K cl W f) := pe_one h
theorem dAnd (ha : PE X a (tE X.K cl W f1)) (hb : PE X (.BoolOp .And (b :: rest) pos) (tE X.K cl W f2)) : PE X (.BoolOp .And (a :: b :: rest) pos) (tE X.K cl W (xAnd f1 f2)) := pe_imp (pe_and ha hb) fun σ H Q => by
  rintro ⟨c, os, ρ, μ, r, h⟩
  refine ⟨c, os, ρ, μ, r, (Out.bind h).imp (fun d1 μ1 h1 => ?_) fun _ _ q => q⟩
  intro v1 H1 r1 e1 p1
  obtain ⟨k, e, h3⟩ := Out.ofO (Out.bind h1)
  cases d1 with
  | bl kb =>
    have z := p1.inv_bl
    subst z
    cases e
    refine ⟨k, rfl, ?_⟩
    cases k with
    | true =>
      rw [if_pos rfl] at h3 ⊢
      exact ⟨c, os, ρ, μ1, r1, h3.imp (fun _ _ q => q.mono e1) fun _ _ q => q.mono e1⟩
    | false =>
      rw [if_neg Bool.false_ne_true] at h3 ⊢
      exact VOk.same (VOk.mono e1 h3) r1 (.bl false)
  | _ => cases e
theorem dOr (ha : PE X a (tE X.K cl W f1)) (hb : PE X (.BoolOp .Or (b :: rest) pos) (tE X.K cl W f2)) : PE X (.BoolOp .Or (a :: b :: rest) pos) (tE X.K cl W (xOr f1 f2)) := pe_imp (pe_or ha hb) fun σ H Q => by
  rintro ⟨c, os, ρ, μ, r, h⟩
  refine ⟨c, os, ρ, μ, r, (Out.bind h).imp (fun d1 μ1 h1 => ?_) fun _ _ q => q⟩
  intro v1 H1 r1 e1 p1
  obtain ⟨k, e, h3⟩ := Out.ofO (Out.bind h1)
  cases d1 with
  | bl kb =>
    have z := p1.inv_bl
    subst z
    cases e
    refine ⟨k, rfl, ?_⟩
    cases k with
    | true =>
      rw [if_pos rfl] at h3 ⊢
      exact VOk.same (VOk.mono e1 h3) r1 (.bl true)
    | false =>
      rw [if_neg Bool.false_ne_true] at h3 ⊢
      exact ⟨c, os, ρ, μ1, r1, h3.imp (fun _ _ q => q.mono e1) fun _ _ q => q.mono e1⟩
  | _ => cases e
theorem dNot (ha : PE X a (tE X.K cl W f)) : PE X (.UnaryOp .Not a pos) (tE X.K cl W (xNot f)) := pe_imp (pe_not ha) fun σ H Q => by
  rintro ⟨c, os, ρ, μ, r, h⟩
  refine ⟨c, os, ρ, μ, r, (Out.bind h).imp (fun d1 μ1 h1 => ?_) fun _ _ q => q⟩
  intro v1 H1 r1 e1 p1
  obtain ⟨k, e, h3⟩ := Out.ofO (Out.bind h1)
  cases d1 with
  | bl kb =>
    have z := p1.inv_bl
    subst z
    cases e
    exact ⟨k, rfl, VOk.same (VOk.mono e1 h3) r1 (.bl _)⟩
  | _ => cases e
variable {t t1 t2 : XB}
theorem dIf {c : Expr} (hc : PT X c (tT X.K cl W t)) (ha : PE X a (tE X.K cl W f1)) (hb : PE X b (tE X.K cl W f2)) : PE X (.IfExp c a b pos) (tE X.K cl W (xIf t f1 f2)) := pe_imp (pe_ifExp hc ha hb) fun σ H Q => by
  rintro ⟨c, os, ρ, μ, r, h⟩
  refine ⟨c, os, ρ, μ, r, (Out.bind h).imp (fun k μ1 h1 => ?_) fun _ _ q => q⟩
  intro H1 r1 e1
  cases k with
  | true =>
    rw [if_pos rfl] at h1 ⊢
    exact ⟨c, os, ρ, μ1, r1, h1.imp (fun _ _ q => q.mono e1) fun _ _ q => q.mono e1⟩
  | false =>
    rw [if_neg Bool.false_ne_true] at h1 ⊢
    exact ⟨c, os, ρ, μ1, r1, h1.imp (fun _ _ q => q.mono e1) fun _ _ q => q.mono e1⟩
theorem dIfF {c : Expr} (hc : PT X c (tT X.K cl W t)) (ha : PE X a (tF X.K cl W f1)) (hb : PE X b (tF X.K cl W f2)) : PE X (.IfExp c a b pos) (tF X.K cl W (xIf t f1 f2)) := pe_imp (pe_ifExp hc ha hb) fun σ H Q => by
  rintro ⟨c, os, ρ, μ, r, h⟩
  refine ⟨c, os, ρ, μ, r, (Out.bind h).imp (fun k μ1 h1 => ?_) fun _ _ q => q⟩
  intro H1 r1 e1
  cases k with
  | true =>
    rw [if_pos rfl] at h1 ⊢
    exact ⟨c, os, ρ, μ1, r1, h1.imp (fun _ _ q => q.mono e1) fun _ _ q => q.mono e1⟩
  | false =>
    rw [if_neg Bool.false_ne_true] at h1 ⊢
    exact ⟨c, os, ρ, μ1, r1, h1.imp (fun _ _ q => q.mono e1) fun _ _ q => q.mono e1⟩
theorem wAnd1 (ha : PT X a (tT X.K cl W t)) : PW X (.BoolOp .And [a] pos) (tT X.K cl W t) := pw_and1 ha
theorem wOr1 (ha : PT X a (tT X.K cl W t)) : PW X (.BoolOp .Or [a] pos) (tT X.K cl W t) := pw_or1 ha
theorem wAnd (ha : PT X a (tT X.K cl W t1)) (hb : PW X (.BoolOp .And (b :: rest) pos) (tT X.K cl W t2)) : PW X (.BoolOp .And (a :: b :: rest) pos) (tT X.K cl W (bAnd t1 t2)) := pw_imp (pw_and ha hb) fun σ H Q => by
  rintro ⟨c, os, ρ, μ, r, h⟩
  refine ⟨c, os, ρ, μ, r, (Out.bind h).imp (fun k μ1 h1 => ?_) fun _ _ q => q⟩
  intro H1 r1 e1
  cases k with
  | true =>
    rw [if_pos rfl] at h1 ⊢
    exact ⟨c, os, ρ, μ1, r1, h1.imp (fun _ _ q H2 r2 e2 => q H2 r2 (e1.trans e2)) fun _ _ q => q.mono e1⟩
  | false =>
    rw [if_neg Bool.false_ne_true] at h1 ⊢
    exact h1 H1 r1 e1
theorem wOr (ha : PT X a (tT X.K cl W t1)) (hb : PW X (.BoolOp .Or (b :: rest) pos) (tT X.K cl W t2)) : PW X (.BoolOp .Or (a :: b :: rest) pos) (tT X.K cl W (bOr t1 t2)) := pw_imp (pw_or ha hb) fun σ H Q => by
  rintro ⟨c, os, ρ, μ, r, h⟩
  refine ⟨c, os, ρ, μ, r, (Out.bind h).imp (fun k μ1 h1 => ?_) fun _ _ q => q⟩
  intro H1 r1 e1
  cases k with
  | true =>
    rw [if_pos rfl] at h1 ⊢
    exact h1 H1 r1 e1
  | false =>
    rw [if_neg Bool.false_ne_true] at h1 ⊢
    exact ⟨c, os, ρ, μ1, r1, h1.imp (fun _ _ q H2 r2 e2 => q H2 r2 (e1.trans e2)) fun _ _ q => q.mono e1⟩
theorem bPW {e : Expr} (h : PW X e (tT X.K cl W t)) : PT X e (tT X.K cl W t) := h.pt
theorem bNotE (ha : PT X a (tT X.K cl W t)) : PT X (.UnaryOp .Not a pos) (tT X.K cl W (bNot t)) := pt_imp (pt_not ha) fun σ H Q => by
  rintro ⟨c, os, ρ, μ, r, h⟩
  exact ⟨c, os, ρ, μ, r, (Out.bind h).imp (fun k μ1 h1 H1 r1 e1 => h1 H1 r1 e1) fun _ _ q => q⟩
/-! ### arguments, displays -/
variable {es : List Expr} {fs : XL}
theorem aNil : PA X [] (tL X.K cl W lNil) := pa_imp pa_nil fun σ H Q => by
  rintro ⟨c, os, ρ, μ, r, h⟩
  exact h [] H r (Kp.refl _ _) .nil
theorem aCons (ha : PE X e (tE X.K cl W f)) (hr : PA X es (tL X.K cl W fs)) (hs : starEach (e :: es) X.env = (false, eval e X.env) :: starEach es X.env := by rfl) : PA X (e :: es) (tL X.K cl W (lCons f fs)) := pa_imp (pa_cons ha hr hs) fun σ H Q => by
  rintro ⟨c, os, ρ, μ, r, h⟩
  refine ⟨c, os, ρ, μ, r, (Out.bind h).imp (fun d1 μ1 h1 => ?_) fun _ _ q => q⟩
  intro v1 H1 r1 e1 p1
  refine ⟨c, os, ρ, μ1, r1, (Out.bind h1).imp (fun ds μ2 h2 => ?_) fun _ _ q => q.mono e1⟩
  intro vs H2 r2 e2 p2
  exact h2 _ H2 r2 (e1.trans e2) (.cons (p1.mono e2.vw) p2)
theorem dTup {x1 : Nat} (h : PA X es (tL X.K cl W fs)) : PE X (.Tuple es x1 pos) (tE X.K cl W (xTup fs)) := pe_imp (pe_tup h) fun σ H Q => by
  rintro ⟨c, os, ρ, μ, r, h⟩
  refine ⟨c, os, ρ, μ, r, (Out.bind h).imp (fun ds μ1 h1 => ?_) fun _ _ q => q⟩
  intro vs H1 r1 e1 p1
  by_cases hl : lenOk ds = true
  · rw [if_pos hl] at h1
    refine ⟨by rw [p1.length]; exact lenOk_le hl, fun p n => VOk.newT (VOk.mono e1 h1) r1 p1 n⟩
  · rw [if_neg hl] at h1
    exact False.elim h1
theorem dLst (h : PA X es (tL X.K cl W fs)) : PE X (.List es pos) (tF X.K cl W (xLst fs)) := pe_imp (pe_lst h) fun σ H Q => by
  rintro ⟨c, os, ρ, μ, r, h⟩
  refine ⟨c, os, ρ, μ, r, (Out.bind h).imp (fun ds μ1 h1 => ?_) fun _ _ q => q⟩
  intro vs H1 r1 e1 p1
  by_cases hl : lenOk ds = true
  · rw [if_pos hl] at h1
    refine ⟨by rw [p1.length]; exact lenOk_le hl, fun p n => FOk.newL (FOk.mono e1 h1) r1 p1 n⟩
  · rw [if_neg hl] at h1
    exact False.elim h1
/-! ### built-ins called -/
def CbD (K : PySem.W.Frag) (r : List V → Hp → VK → Prop) (g : List D → Option D) : Prop := ∀ {c : Ct} {os : List (Option Addr)} {ρ : Env} {μ : Store} {σ : L2.St} {H : Hp} {vs : List V} {ds : List D} {d : D} {Q : VK}, Rl K c os ρ μ σ H → RpA K c.T (vw c os H) vs ds → g ds = some d → VOk K c os ρ σ H Q d μ → r vs H Q
def CbF (K : PySem.W.Frag) (r : List V → Hp → VK → Prop) (g : List D → Option D) : Prop := ∀ {c : Ct} {os : List (Option Addr)} {ρ : Env} {μ : Store} {σ : L2.St} {H : Hp} {vs : List V} {ds : List D} {d : D} {Q : VK}, Rl K c os ρ μ σ H → RpA K c.T (vw c os H) vs ds → g ds = some d → FOk K c os ρ σ H Q d μ → r vs H Q
theorem cb_imp {r : List V → Hp → VK → Prop} {g : List D → Option D} (hs : CbD X.K r g) (σ : L2.St) (H : Hp) (Q : VK) (h : tE X.K cl W (xCb g fs) σ H Q) : tCB r (tL X.K cl W fs) σ H Q := by
  obtain ⟨c, os, ρ, μ, r, h⟩ := h
  refine ⟨c, os, ρ, μ, r, (Out.bind h).imp (fun ds μ1 h1 => ?_) fun _ _ q => q⟩
  intro vs H1 r1 e1 p1
  obtain ⟨d, e, h2⟩ := Out.ofO h1
  exact hs r1 p1 e (VOk.mono e1 h2)
theorem cbF_imp {r : List V → Hp → VK → Prop} {g : List D → Option D} (hs : CbF X.K r g) (σ : L2.St) (H : Hp) (Q : VK) (h : tF X.K cl W (xCb g fs) σ H Q) : tCB r (tL X.K cl W fs) σ H Q := by
  obtain ⟨c, os, ρ, μ, r, h⟩ := h
  refine ⟨c, os, ρ, μ, r, (Out.bind h).imp (fun ds μ1 h1 => ?_) fun _ _ q => q⟩
  intro vs H1 r1 e1 p1
  obtain ⟨d, e, h2⟩ := Out.ofO h1
  exact hs r1 p1 e (FOk.mono e1 h2)
theorem dCb {r : List V → Hp → VK → Prop} {g : List D → Option D} {x : Str} {id : String} {p : Pos} (hc : CallR X (.builtin id) r) (hs : CbD X.K r g) (hg : Gl X x) (hm : X.mg x = none) (hv : bootBuiltins x = some (.builtin id)) (ha : PA X (e :: es) (tL X.K cl W fs)) (hn : x ≠ "__name__" := by decide) (hdb : (x == ("__debug__" : Str)) = false := by decide)
    (he : starEach (e :: es) X.env = (false, eval e X.env) :: starEach es X.env := by rfl) (hpl : (backTo pos (starEach es X.env)).any (·.1) = false := by rfl) : PE X (.Call (.Name x p) (e :: es) [] pos) (tE X.K cl W (xCb g fs)) := pe_imp (pe_callB hc hg hm hv ha hn hdb he hpl) (cb_imp hs)
theorem dCbF {r : List V → Hp → VK → Prop} {g : List D → Option D} {x : Str} {id : String} {p : Pos} (hc : CallR X (.builtin id) r) (hs : CbF X.K r g) (hg : Gl X x) (hm : X.mg x = none) (hv : bootBuiltins x = some (.builtin id)) (ha : PA X (e :: es) (tL X.K cl W fs)) (hn : x ≠ "__name__" := by decide) (hdb : (x == ("__debug__" : Str)) = false := by decide)
    (he : starEach (e :: es) X.env = (false, eval e X.env) :: starEach es X.env := by rfl) (hpl : (backTo pos (starEach es X.env)).any (·.1) = false := by rfl) : PE X (.Call (.Name x p) (e :: es) [] pos) (tF X.K cl W (xCb g fs)) := pe_imp (pe_callB hc hg hm hv ha hn hdb he hpl) (cbF_imp hs)
theorem dCty {r : List V → Hp → VK → Prop} {g : List D → Option D} {x : Str} {T : String} {p : Pos} (hc : CallR X (.type T) r) (hs : CbD X.K r g) (hg : Gl X x) (hm : X.mg x = none) (hv : bootBuiltins x = some (.type T)) (ha : PA X (e :: es) (tL X.K cl W fs)) (hn : x ≠ "__name__" := by decide) (hdb : (x == ("__debug__" : Str)) = false := by decide)
    (he : starEach (e :: es) X.env = (false, eval e X.env) :: starEach es X.env := by rfl) (hpl : (backTo pos (starEach es X.env)).any (·.1) = false := by rfl) : PE X (.Call (.Name x p) (e :: es) [] pos) (tE X.K cl W (xCb g fs)) := pe_imp (pe_callTy hc hg hm hv ha hn hdb he hpl) (cb_imp hs)
theorem dCtyF {r : List V → Hp → VK → Prop} {g : List D → Option D} {x : Str} {T : String} {p : Pos} (hc : CallR X (.type T) r) (hs : CbF X.K r g) (hg : Gl X x) (hm : X.mg x = none) (hv : bootBuiltins x = some (.type T)) (ha : PA X (e :: es) (tL X.K cl W fs)) (hn : x ≠ "__name__" := by decide) (hdb : (x == ("__debug__" : Str)) = false := by decide)
    (he : starEach (e :: es) X.env = (false, eval e X.env) :: starEach es X.env := by rfl) (hpl : (backTo pos (starEach es X.env)).any (·.1) = false := by rfl) : PE X (.Call (.Name x p) (e :: es) [] pos) (tF X.K cl W (xCb g fs)) := pe_imp (pe_callTy hc hg hm hv ha hn hdb he hpl) (cbF_imp hs)
end
/-! ### a def's promise by its denotation -/
def SpD (K : PySem.W.Frag) (cl : Nat → Addr) (n : Nat) (g : List D → Store → Res D) : Sp := fun vs H Q E => ∃ (A : Addr → Prop) (T : List Addr) (μ : Store) (ds : List D),
  Rl K ⟨A, T, H⟩ [] [] μ [] H ∧ RpA K T (vw ⟨A, T, H⟩ [] H) vs ds ∧ ds.length = n ∧
  Out (g ds μ) (fun d μ' => ∀ v H', Rl K ⟨A, T, H⟩ [] [] μ' [] H' → Rp K T (vw ⟨A, T, H⟩ [] H') v d → Q v H') (fun x μ' => ∀ e dx H', Rl K ⟨A, T, H⟩ [] [] μ' [] H' → ExAt K cl ⟨A, T, H⟩ [] x e dx H' → E e dx H')
def SpF (K : PySem.W.Frag) (cl : Nat → Addr) (n : Nat) (g : List D → Store → Res D) : Sp := fun vs H Q E => ∃ (A : Addr → Prop) (T : List Addr) (μ : Store) (ds : List D),
  Rl K ⟨A, T, H⟩ [] [] μ [] H ∧ RpA K T (vw ⟨A, T, H⟩ [] H) vs ds ∧ ds.length = n ∧
  Out (g ds μ) (fun d μ' => ∀ a H', Fr K ⟨A, T, H⟩ [] [] μ' [] H' a d → Q (.ref a) H') (fun x μ' => ∀ e dx H', Rl K ⟨A, T, H⟩ [] [] μ' [] H' → ExAt K cl ⟨A, T, H⟩ [] x e dx H' → E e dx H')
section
variable {K : PySem.W.Frag} {cl : Nat → Addr} {c : Ct} {os : List (Option Addr)} {ρ : Env} {μ μ' : Store} {σ : L2.St} {H H' : Hp} {a : Addr} {d : D} {x : Exn}
/-- the callee's view -/
def Ct.in (c : Ct) (os : List (Option Addr)) (H : Hp) : Ct := ⟨fun b => c.A b ∨ some b ∈ os, c.T, H⟩
theorem vw_in (c : Ct) (os : List (Option Addr)) (H H' : Hp) : vw (c.in os H) [] H' = vw c os H' := by
  funext b
  unfold vw Ct.in
  by_cases hb : (c.A b ∨ b ∈ c.T ∨ some b ∈ os)
  · rw [if_pos hb, if_pos]
    rcases hb with h | h | h
    · exact .inl (.inl h)
    · exact .inr (.inl h)
    · exact .inl (.inr h)
  · rw [if_neg hb, if_neg]
    rintro ((h | h) | h | h)
    · exact hb (.inl h)
    · exact hb (.inr (.inr h))
    · exact hb (.inr (.inl h))
    · cases h
theorem vw_inav (c : Ct) (os : List (Option Addr)) (H H' : Hp) (a : Addr) : vw ((c.in os H).av a) [] H' = vw (c.av a) os H' := by
  funext b
  unfold vw Ct.in Ct.av
  by_cases hb : ((c.A b ∨ b = a) ∨ b ∈ c.T ∨ some b ∈ os)
  · rw [if_pos hb, if_pos]
    rcases hb with (h | h) | h | h
    · exact .inl (.inl (.inl h))
    · exact .inl (.inr h)
    · exact .inr (.inl h)
    · exact .inl (.inl (.inr h))
  · rw [if_neg hb, if_neg]
    rintro (((h | h) | h) | h | h)
    · exact hb (.inl (.inl h))
    · exact hb (.inr (.inr h))
    · exact hb (.inl (.inr h))
    · exact hb (.inr (.inl h))
    · cases h
theorem Rl.callIn (r : Rl K c os ρ μ σ H) : Rl K (c.in os H) [] [] μ [] H where
  lo := rfl
  lr := rfl
  sl := fun i o s x h => by simp at h
  inj := fun i j a h => by simp at h
  own := fun a h => by cases h
  tA := fun b hb h => h.elim (r.tA b hb) fun z => (r.own b z).1 hb
  tn := r.tn
  sm := r.sm
  st := r.st
  keep := fun b o h _ => h
  dom := fun b h => h.elim (r.dom b) r.ownSomeN
/-- behind a call -/
theorem Rl.callOut (r : Rl K c os ρ μ σ H) (q : Rl K (c.in os H) [] [] μ' [] H') : Rl K c os ρ μ' σ H' ∧ Kp c H H' := by
  have e : Exts (vw c os H) (vw c os H') := fun b o h => by
    obtain ⟨h1, h2, h3, h4⟩ := vw_some.mp h
    exact vw_some.mpr ⟨q.keep b o h1 h3, h2, h3, h4⟩
  refine ⟨⟨r.lo, r.lr, fun i o s x h1 h2 h3 => ?_, r.inj, r.own, r.tA, r.tn, q.sm, q.st, fun b o h1 h2 => q.keep b o (r.keep b o h1 h2) h2, fun b h => ?_⟩, fun b o h1 h2 => q.keep b o h1 h2⟩
  · have z := r.sl i o s x h1 h2 h3
    have hm : ∀ b, o = some b → b ∉ c.T := fun b eb => (r.own b (by rw [← eb]; exact List.mem_of_getElem? h1)).1
    unfold SlAt at z ⊢
    split at z
    · trivial
    · exact z.mono e
    · exact ⟨z.1, z.2.mono e (fun o h => q.keep _ _ h (hm _ rfl))⟩
    · exact z.elim
  · obtain ⟨o, z, nu⟩ := r.dom b h
    exact ⟨o, q.keep b o z fun y => r.tA b y h, nu⟩
theorem Fr.callOut (r : Rl K c os ρ μ σ H) (q : Fr K (c.in os H) [] [] μ' [] H' a d) : Fr K c os ρ μ' σ H' a d ∧ Kp c H H' := by
  have na : ¬ c.A a := fun z => q.nA (.inl z)
  have no : some a ∉ os := fun z => q.nA (.inr z)
  have hn : H a = none := q.he
  have kp : ∀ b o, H b = some o → b ∉ c.T → H' b = some o := fun b o h1 h2 => q.rl.keep b o h1 h2
  have e : Exts (vw c os H) (vw (c.av a) os H') := fun b o h => by
    obtain ⟨h1, h2, h3, h4⟩ := vw_some.mp h
    have nb : b ≠ a := ne_of_none h1 hn
    exact vw_some.mpr ⟨kp b o h1 h3, fun z => z.elim h2 nb, h3, h4⟩
  have ow := q.ow
  rw [vw_inav] at ow
  refine ⟨⟨⟨r.lo, r.lr, fun i o s x h1 h2 h3 => ?_, r.inj, fun b h => ?_, fun b h z => ?_, r.tn, q.rl.sm, q.rl.st, fun b o h1 h2 => kp b o (r.keep b o h1 h2) h2, fun b h => ?_⟩, ow, na, q.nT, no, (r.fresh hn).2.2.2⟩, kp⟩
  · have z := r.sl i o s x h1 h2 h3
    have hm : ∀ b, o = some b → b ∉ c.T := fun b eb => (r.own b (by rw [← eb]; exact List.mem_of_getElem? h1)).1
    unfold SlAt at z ⊢
    split at z
    · trivial
    · exact z.mono e
    · exact ⟨z.1, z.2.mono e (fun o h => kp _ _ h (hm _ rfl))⟩
    · exact z.elim
  · exact ⟨(r.own b h).1, fun z => z.elim (r.own b h).2.1 fun y => no (by rw [← y]; exact h), (r.own b h).2.2⟩
  · exact z.elim (r.tA b h) fun y => q.nT (by rw [← y]; exact h)
  · rcases h with h | h
    · obtain ⟨o, z, nu⟩ := r.dom b h
      exact ⟨o, kp b o z fun y => r.tA b y h, nu⟩
    · rw [h]; exact q.ow.thereN
theorem ExAt.of_in {e : Value} {dx : Option Addr} (h : ExAt K cl (c.in os H) [] x e dx H') : ExAt K cl c os x e dx H' := by
  unfold ExAt at h ⊢
  rw [vw_in] at h
  exact h
end
section
variable {X : Cx} {cl : Nat → Addr} {W : WX} {e : Expr} {es : List Expr} {fs : XL} {pos p : Pos} {k : Nat} {f : Addr} {fd : FuncData} {ps : List Str} {x : Str} {n : Nat} {g : List D → Store → Res D}
theorem dCall (F : FnOk X.prog X.w X.K X.mg X.base (L2.CX X.prog X.w) k f fd ps (SpD X.K cl n g)) (hr : Room k X.A) (hg : Gl X x) (hm : X.mg x = some (.ref f)) (hk : PySem.W.keepIn X.K (.ref f) = true) (hb : Binds X.K fd ps []) (tk : Takes X W) (ha : PA X (e :: es) (tL X.K cl W fs)) (hn : ∀ ρ μ ds μ', fs ρ μ = .ok ds μ' → ds.length = n)
    (hdb : (x == ("__debug__" : Str)) = false := by decide) (he : starEach (e :: es) X.env = (false, eval e X.env) :: starEach es X.env := by rfl) (hpl : (backTo pos (starEach es X.env)).any (·.1) = false := by rfl) :
    PE X (.Call (.Name x p) (e :: es) [] pos) (tE X.K cl W (xCall g fs)) := pe_imp (pe_callSD (dvs := []) F hr hg hm hk hb .nil (fun σ => passAt tk σ) ha hdb he hpl) fun σ H Q => by
  rintro ⟨c, os, ρ, μ, r, h⟩
  have h' := Out.bind h
  refine ⟨c, os, ρ, μ, r, ?_⟩
  cases e0 : fs ρ μ with
  | fail => rw [e0] at h'; exact h'
  | exc y μ1 => rw [e0] at h'; exact h'
  | ok ds μ1 =>
    rw [e0] at h'
    intro vs H1 r1 e1 p1
    rw [List.append_nil]
    refine ⟨fun b => c.A b ∨ some b ∈ os, c.T, μ1, ds, r1.callIn, ?_, hn _ _ _ _ e0, ?_⟩
    · exact (vw_in c os H1 H1).symm ▸ p1
    · refine Out.imp h' (fun d μ2 q v H2 r2 p2 => ?_) (fun y μ2 q v dx H2 r2 p2 => ?_)
      · obtain ⟨r3, e3⟩ := r1.callOut r2
        exact q v H2 r3 (e1.trans e3) ((vw_in c os H1 H2) ▸ p2)
      · obtain ⟨r3, e3⟩ := r1.callOut r2
        exact q v dx H2 r3 (e1.trans e3) p2.of_in
theorem dCallF (F : FnOk X.prog X.w X.K X.mg X.base (L2.CX X.prog X.w) k f fd ps (SpF X.K cl n g)) (hr : Room k X.A) (hg : Gl X x) (hm : X.mg x = some (.ref f)) (hk : PySem.W.keepIn X.K (.ref f) = true) (hb : Binds X.K fd ps []) (tk : Takes X W) (ha : PA X (e :: es) (tL X.K cl W fs)) (hn : ∀ ρ μ ds μ', fs ρ μ = .ok ds μ' → ds.length = n)
    (hdb : (x == ("__debug__" : Str)) = false := by decide) (he : starEach (e :: es) X.env = (false, eval e X.env) :: starEach es X.env := by rfl) (hpl : (backTo pos (starEach es X.env)).any (·.1) = false := by rfl) :
    PE X (.Call (.Name x p) (e :: es) [] pos) (tF X.K cl W (xCall g fs)) := pe_imp (pe_callSD (dvs := []) F hr hg hm hk hb .nil (fun σ => passAt tk σ) ha hdb he hpl) fun σ H Q => by
  rintro ⟨c, os, ρ, μ, r, h⟩
  have h' := Out.bind h
  refine ⟨c, os, ρ, μ, r, ?_⟩
  cases e0 : fs ρ μ with
  | fail => rw [e0] at h'; exact h'
  | exc y μ1 => rw [e0] at h'; exact h'
  | ok ds μ1 =>
    rw [e0] at h'
    intro vs H1 r1 e1 p1
    rw [List.append_nil]
    refine ⟨fun b => c.A b ∨ some b ∈ os, c.T, μ1, ds, r1.callIn, ?_, hn _ _ _ _ e0, ?_⟩
    · exact (vw_in c os H1 H1).symm ▸ p1
    · refine Out.imp h' (fun d μ2 q v H2 r2 => ?_) (fun y μ2 q v dx H2 r2 p2 => ?_)
      · obtain ⟨r3, e3⟩ := Fr.callOut r1 r2
        exact q v H2 r3 (e1.trans e3) (e1.nn r2.he r2.nT)
      · obtain ⟨r3, e3⟩ := r1.callOut r2
        exact q v dx H2 r3 (e1.trans e3) p2.of_in
theorem lNil_len : ∀ ρ μ ds μ', lNil ρ μ = .ok ds μ' → ds.length = 0 := fun ρ μ ds μ' h => by
  cases h; rfl
theorem lCons_len {f : XD} {fs : XL} {n : Nat} (h : ∀ ρ μ ds μ', fs ρ μ = .ok ds μ' → ds.length = n) : ∀ ρ μ ds μ', lCons f fs ρ μ = .ok ds μ' → ds.length = n + 1 := fun ρ μ ds μ' e => by
  unfold lCons at e
  cases e1 : f ρ μ with
  | fail => rw [e1] at e; cases e
  | exc y μ1 => rw [e1] at e; cases e
  | ok d μ1 =>
    rw [e1] at e
    have e' : (fs ρ μ1).bind (fun ds μ2 => Res.ok (d :: ds) μ2) = .ok ds μ' := e
    cases e2 : fs ρ μ1 with
    | fail => rw [e2] at e'; cases e'
    | exc y μ2 => rw [e2] at e'; cases e'
    | ok es μ2 =>
      rw [e2] at e'
      cases e'
      rw [List.length_cons, h _ _ _ _ e2]
end
end DC
set_option Elab.async false
set_option linter.all false
set_option maxRecDepth 100000
set_option maxHeartbeats 2000000
/-! DC: operators by values. -/
namespace DC
open PySem PySem.Spec PyProof.Rows L2
/-! ### two rules for one operation -/
theorem Op2.or {K : PySem.W.Frag} {r r' : R2} {g g' h : D → D → Option D} (a : Op2 K r g) (b : Op2 K r' g') (hh : ∀ x y z, h x y = some z → g x y = some z ∨ g' x y = some z) : Op2 K (fun x y H Q => r x y H Q ∨ r' x y H Q) h := fun rl p1 p2 e q => by
  rcases hh _ _ _ e with z | z
  · exact .inl (a rl p1 p2 z q)
  · exact .inr (b rl p1 p2 z q)
theorem CbD.or {K : PySem.W.Frag} {r r' : List V → Hp → VK → Prop} {g g' h : List D → Option D} (a : CbD K r g) (b : CbD K r' g') (hh : ∀ x z, h x = some z → g x = some z ∨ g' x = some z) : CbD K (fun x H Q => r x H Q ∨ r' x H Q) h := fun rl p e q => by
  rcases hh _ _ e with z | z
  · exact .inl (a rl p z q)
  · exact .inr (b rl p z q)
theorem CbF.or {K : PySem.W.Frag} {r r' : List V → Hp → VK → Prop} {g g' h : List D → Option D} (a : CbF K r g) (b : CbF K r' g') (hh : ∀ x z, h x = some z → g x = some z ∨ g' x = some z) : CbF K (fun x H Q => r x H Q ∨ r' x H Q) h := fun rl p e q => by
  rcases hh _ _ e with z | z
  · exact .inl (a rl p z q)
  · exact .inr (b rl p z q)
theorem CbF.v {K : PySem.W.Frag} {r : List V → Hp → VK → Prop} {g : List D → Option D} (h : CbF K r g) : CbD K r g := fun r' p e q => h r' p e q.f
section
variable {K : PySem.W.Frag} {T : List Addr} {Hv H : Hp} {c : Ct} {os : List (Option Addr)} {ρ : Env} {μ : Store} {σ : L2.St}
theorem strOk_cat {x y : Str} (hx : strOk x = true) (hy : strOk y = true) : strOk (x ++ y) = true := by
  unfold strOk at *
  show (x.cps ++ y.cps).all _ = true
  rw [Array.all_append, hx, hy]
  rfl
/-! ### + -/
def addI : D → D → Option D
  | .int i, .int j => some (.int (i + j))
  | _, _ => none
def addIB : D → D → Option D
  | .int i, .bl k => some (.int (i + b2i k))
  | _, _ => none
def addS : D → D → Option D
  | .str x, .str y => if Nat.ble (x.length + y.length) 1000000 then some (.str (x ++ y)) else none
  | _, _ => none
def addT : D → D → Option D
  | .tup xs, .tup ys => if Nat.ble (xs.length + ys.length) 1000000 then some (.tup (xs ++ ys)) else none
  | _, _ => none
def addL : D → D → Option D
  | .lst xs, .lst ys => if Nat.ble (xs.length + ys.length) 1000000 then some (.lst (xs ++ ys)) else none
  | _, _ => none
def addD : D → D → Option D
  | .int i, .int j => some (.int (i + j))
  | .int i, .bl k => some (.int (i + b2i k))
  | .str x, .str y => if Nat.ble (x.length + y.length) 1000000 then some (.str (x ++ y)) else none
  | .tup xs, .tup ys => if Nat.ble (xs.length + ys.length) 1000000 then some (.tup (xs ++ ys)) else none
  | .lst xs, .lst ys => if Nat.ble (xs.length + ys.length) 1000000 then some (.lst (xs ++ ys)) else none
  | _, _ => none
theorem ble_line {n : Nat} (h : Nat.ble n 1000000 = true) : n ≤ sizeLine := Nat.le_trans (Nat.le_of_ble_eq_true h) (by rw [sizeLine_eq]; decide)
theorem o_addI : Op2 K (rI0 fun i j => .int (i + j)) addI := fun {c os ρ μ σ H x y d1 d2 d Q} r p1 p2 e q => by
  unfold addI at e
  split at e
  · cases e
    exact ⟨_, _, p1.inv_int, p2.inv_int, VOk.same q r (.int _)⟩
  · cases e
theorem o_addIB : Op2 K (fun x y H Q => ∃ i k, x = .int i ∧ y = .bl k ∧ Q (.int (i + b2i k)) H) addIB := fun {c os ρ μ σ H x y d1 d2 d Q} r p1 p2 e q => by
  unfold addIB at e
  split at e
  · cases e
    exact ⟨_, _, p1.inv_int, p2.inv_bl, VOk.same q r (.int _)⟩
  · cases e
theorem o_addS : Op2 K (fun x y H Q => ∃ i j, x = .str i ∧ y = .str j ∧ i.length + j.length ≤ sizeLine ∧ Q (.str (i ++ j)) H) addS := fun {c os ρ μ σ H x y d1 d2 d Q} r p1 p2 e q => by
  unfold addS at e
  split at e
  · split at e
    · rename_i hl
      cases e
      obtain ⟨z1, k1⟩ := p1.inv_str
      obtain ⟨z2, k2⟩ := p2.inv_str
      exact ⟨_, _, z1, z2, ble_line hl, VOk.same q r (.str (strOk_cat k1 k2))⟩
    · cases e
  · cases e
theorem o_addT : Op2 K (rCatA K) addT := fun {c os ρ μ σ H x y d1 d2 d Q} r p1 p2 e q => by
  unfold addT at e
  split at e
  · split at e
    · rename_i hl
      cases e
      obtain ⟨a, vs, rfl, h1, k1⟩ := p1.inv_tup
      obtain ⟨b, ws, rfl, h2, k2⟩ := p2.inv_tup
      refine ⟨a, b, vs, ws, rfl, rfl, vw_le.sqT h1, vw_le.sqT h2, by rw [k1.length, k2.length]; exact ble_line hl, fun z => ?_, fun _ z => ?_, fun _ _ p n => VOk.newT q r (k1.append k2) n⟩
      · subst z; cases k1
        exact VOk.same q r (.tup h2 k2)
      · subst z; cases k2
        rw [List.append_nil] at q
        exact VOk.same q r (.tup h1 k1)
    · cases e
  · cases e
theorem o_addL : Op2F K rCat addL := fun {c os ρ μ σ H x y d1 d2 d Q} r p1 p2 e q => by
  unfold addL at e
  split at e
  · split at e
    · rename_i hl
      cases e
      obtain ⟨a, vs, rfl, h1, k1⟩ := p1.inv_lst
      obtain ⟨b, ws, rfl, h2, k2⟩ := p2.inv_lst
      exact ⟨a, b, vs, ws, rfl, rfl, vw_le _ _ h1, vw_le _ _ h2, by rw [k1.length, k2.length]; exact ble_line hl, fun p n => FOk.newL q r (k1.append k2) n⟩
    · cases e
  · cases e
theorem o_add : Op2 K (fun x y H Q => rI0 (fun i j => .int (i + j)) x y H Q ∨ ((∃ i k, x = .int i ∧ y = .bl k ∧ Q (.int (i + b2i k)) H) ∨ ((∃ i j, x = .str i ∧ y = .str j ∧ i.length + j.length ≤ sizeLine ∧ Q (.str (i ++ j)) H) ∨ (rCatA K x y H Q ∨ rCat x y H Q)))) addD :=
  o_addI.or (o_addIB.or (o_addS.or (o_addT.or o_addL.v (h := fun x y => (addT x y).or (addL x y)) fun x y z e => by
    cases h : addT x y with
    | some w => rw [h] at e; exact .inl e
    | none => rw [h] at e; exact .inr e) (h := fun x y => (addS x y).or ((addT x y).or (addL x y))) fun x y z e => by
    cases h : addS x y with
    | some w => rw [h] at e; exact .inl e
    | none => rw [h] at e; exact .inr e) (h := fun x y => (addIB x y).or ((addS x y).or ((addT x y).or (addL x y)))) fun x y z e => by
    cases h : addIB x y with
    | some w => rw [h] at e; exact .inl e
    | none => rw [h] at e; exact .inr e) fun x y z e => by
      unfold addD at e
      split at e
      · exact .inl e
      · exact .inr e
      · exact .inr (by
          show (none : Option D).or ((addS _ _).or _) = _
          unfold addS
          rw [Option.none_or]
          split at e
          · rename_i hl; simp only [hl, if_true]; exact e
          · cases e)
      · exact .inr (by
          show (none : Option D).or ((none : Option D).or ((addT _ _).or _)) = _
          unfold addT
          rw [Option.none_or, Option.none_or]
          split at e
          · rename_i hl; simp only [hl, if_true]; exact e
          · cases e)
      · exact .inr (by
          show (none : Option D).or ((none : Option D).or ((none : Option D).or (addL _ _))) = _
          unfold addL
          rw [Option.none_or, Option.none_or, Option.none_or]
          exact e)
      · cases e
theorem op_addD {X : Cx} : OpR X (binaryOp .Add) (fun x y H Q => rI0 (fun i j => .int (i + j)) x y H Q ∨ ((∃ i k, x = .int i ∧ y = .bl k ∧ Q (.int (i + b2i k)) H) ∨ ((∃ i j, x = .str i ∧ y = .str j ∧ i.length + j.length ≤ sizeLine ∧ Q (.str (i ++ j)) H) ∨ (rCatA X.K x y H Q ∨ rCat x y H Q)))) := op_add.or (op_add_ib.or (op_add_str.or (op_catA.or op_cat)))
/-! ### -, *, //, % -/
def subD : D → D → Option D
  | .int i, .int j => some (.int (i - j))
  | _, _ => none
theorem o_sub : Op2 K (rI0 fun i j => .int (i - j)) subD := fun {c os ρ μ σ H x y d1 d2 d Q} r p1 p2 e q => by
  unfold subD at e
  split at e
  · cases e
    exact ⟨_, _, p1.inv_int, p2.inv_int, VOk.same q r (.int _)⟩
  · cases e
def small64 (i : Int) : Bool := Nat.blt i.natAbs 18446744073709551616
def mulOk (i j : Int) : Bool := small64 i || small64 j || (Nat.blt i.natAbs (2 ^ 65536) && Nat.blt j.natAbs (2 ^ 65536))
def mulD : D → D → Option D
  | .int i, .int j => if mulOk i j then some (.int (i * j)) else none
  | _, _ => none
theorem small64_lt {i : Int} (h : small64 i = true) : -(2 ^ 64) < i ∧ i < 2 ^ 64 := by
  have z : i.natAbs < 18446744073709551616 := Nat.le_of_ble_eq_true h
  omega
theorem o_mul : Op2 K (fun x y H Q => rI CMul (fun i j => .int (i * j)) x y H Q ∨ rI CMulW (fun i j => .int (i * j)) x y H Q) mulD := fun {c os ρ μ σ H x y d1 d2 d Q} r p1 p2 e q => by
  unfold mulD at e
  split at e
  · rename_i i j
    split at e
    · rename_i hl
      cases e
      unfold mulOk at hl
      simp only [Bool.or_eq_true, Bool.and_eq_true] at hl
      rcases hl with (hl | hl) | ⟨hl, hl2⟩
      · exact .inl ⟨_, _, p1.inv_int, p2.inv_int, .inl (small64_lt hl), VOk.same q r (.int _)⟩
      · exact .inl ⟨_, _, p1.inv_int, p2.inv_int, .inr (small64_lt hl), VOk.same q r (.int _)⟩
      · have h1 : i.natAbs < 2 ^ 65536 := Nat.le_of_ble_eq_true hl
        have h2 : j.natAbs < 2 ^ 65536 := Nat.le_of_ble_eq_true hl2
        exact .inr ⟨_, _, p1.inv_int, p2.inv_int, wide_mul h1 h2 (by decide) (by decide) (by decide), VOk.same q r (.int _)⟩
    · cases e
  · cases e
theorem op_mulD {X : Cx} : OpR X (binaryOp .Mult) (fun x y H Q => rI CMul (fun i j => .int (i * j)) x y H Q ∨ rI CMulW (fun i j => .int (i * j)) x y H Q) := op_mul.or op_mulW
def repL : D → D → Option D
  | .lst xs, .int k => if Nat.blt k.natAbs 4611686018427387904 && Nat.ble (xs.length * k.toNat) 1000000 then some (.lst (List.replicate k.toNat xs).flatten) else none
  | _, _ => none
theorem RpA.rep {vs : List V} {ds : List D} (h : RpA K T H vs ds) : ∀ n, RpA K T H (List.replicate n vs).flatten (List.replicate n ds).flatten
  | 0 => .nil
  | n + 1 => by
    rw [List.replicate_succ, List.replicate_succ, List.flatten_cons, List.flatten_cons]
    exact h.append (RpA.rep h n)
theorem o_repL : Op2F K rRep repL := fun {c os ρ μ σ H x y d1 d2 d Q} r p1 p2 e q => by
  unfold repL at e
  split at e
  · split at e
    · rename_i hl
      cases e
      rw [Bool.and_eq_true] at hl
      have hk := Nat.le_of_ble_eq_true hl.1
      obtain ⟨a, vs, rfl, h1, k1⟩ := p1.inv_lst
      exact ⟨a, _, vs, rfl, p2.inv_int, vw_le _ _ h1, by have z : (_ : Int).natAbs < 4611686018427387904 := hk; omega, by have z : (_ : Int).natAbs < 4611686018427387904 := hk; omega, by rw [k1.length]; exact ble_line hl.2, fun p n => FOk.newL q r (k1.rep _) n⟩
    · cases e
  · cases e
def divD : D → D → Option D
  | .int i, .int j => if decide (0 < j) && Nat.blt j.natAbs (2 ^ 8999) then some (.int (i / j)) else if decide (j < 0) && Nat.blt j.natAbs 1073741824 then some (.int (i.fdiv j)) else none
  | _, _ => none
theorem o_div : Op2 K (fun x y H Q => rI CDivW (fun i j => .int (i / j)) x y H Q ∨ rI CDivN (fun i j => .int (i.fdiv j)) x y H Q) divD := fun {c os ρ μ σ H x y d1 d2 d Q} r p1 p2 e q => by
  unfold divD at e
  split at e
  · rename_i i j
    split at e
    · rename_i hl
      cases e
      simp only [Bool.and_eq_true, decide_eq_true_eq] at hl
      have h2 : j.natAbs < 2 ^ 8999 := Nat.le_of_ble_eq_true hl.2
      exact .inl ⟨_, _, p1.inv_int, p2.inv_int, wide_div hl.1 h2 (by decide) (by decide), VOk.same q r (.int _)⟩
    · split at e
      · rename_i hl
        cases e
        simp only [Bool.and_eq_true, decide_eq_true_eq] at hl
        have h2 : j.natAbs < 1073741824 := Nat.le_of_ble_eq_true hl.2
        exact .inr ⟨_, _, p1.inv_int, p2.inv_int, ⟨by omega, h2⟩, VOk.same q r (.int _)⟩
      · cases e
  · cases e
theorem op_divD {X : Cx} : OpR X (binaryOp .FloorDiv) (fun x y H Q => rI CDivW (fun i j => .int (i / j)) x y H Q ∨ rI CDivN (fun i j => .int (i.fdiv j)) x y H Q) := op_fdivW.or op_fdivN
def modD : D → D → Option D
  | .int i, .int j => if decide (0 < j) then some (.int (i % j)) else none
  | _, _ => none
theorem o_mod : Op2 K (rI (fun _ j => 0 < j) fun i j => .int (i % j)) modD := fun {c os ρ μ σ H x y d1 d2 d Q} r p1 p2 e q => by
  unfold modD at e
  split at e
  · split at e
    · rename_i hl
      cases e
      exact ⟨_, _, p1.inv_int, p2.inv_int, of_decide_eq_true hl, VOk.same q r (.int _)⟩
    · cases e
  · cases e
def powD : D → D → Option D
  | .int i, .int j => if decide (0 ≤ j) && decide (j ≤ 1000) && small64 i then some (.int (i ^ j.toNat)) else none
  | _, _ => none
theorem o_pow : Op2 K (rI CPow fun i j => .int (i ^ j.toNat)) powD := fun {c os ρ μ σ H x y d1 d2 d Q} r p1 p2 e q => by
  unfold powD at e
  split at e
  · split at e
    · rename_i hl
      cases e
      simp only [Bool.and_eq_true, decide_eq_true_eq] at hl
      have z := small64_lt hl.2
      exact ⟨_, _, p1.inv_int, p2.inv_int, ⟨hl.1.1, by omega, by omega⟩, VOk.same q r (.int _)⟩
    · cases e
  · cases e
def negD : D → Option D
  | .int i => some (.int (-i))
  | _ => none
theorem o_neg : Op1 K (rU fun i => .int (-i)) negD := fun {c os ρ μ σ H x d1 d Q} r p1 e q => by
  unfold negD at e
  split at e
  · cases e
    exact ⟨_, p1.inv_int, VOk.same q r (.int _)⟩
  · cases e
/-! ### comparisons of ints -/
def cmpI (p : Int → Int → Bool) : D → D → Option D
  | .int i, .int j => some (.bl (p i j))
  | _, _ => none
theorem o_cmpI {p : Int → Int → Bool} : Op2 K (rI0 fun i j => .bl (p i j)) (cmpI p) := fun {c os ρ μ σ H x y d1 d2 d Q} r p1 p2 e q => by
  unfold cmpI at e
  split at e
  · cases e
    exact ⟨_, _, p1.inv_int, p2.inv_int, VOk.same q r (.bl _)⟩
  · cases e
abbrev ltD := cmpI fun i j => decide (i < j)
abbrev leD := cmpI fun i j => decide (i ≤ j)
abbrev gtD := cmpI fun i j => decide (j < i)
abbrev geD := cmpI fun i j => decide (j ≤ i)
/-! ### ==, != of data -/
mutual
def D.toPy : D → PyData
  | .non => .none
  | .bl b => .bool b
  | .int i => .int i
  | .str x => .str x
  | .tup xs => .tuple (D.toPyA xs)
  | .lst xs => .list (D.toPyA xs)
  | .scr _ => .none
  | .dk _ _ => .none
  | .dt _ _ => .none
  | .own _ => .none
def D.toPyA : List D → List PyData
  | [] => []
  | x :: xs => D.toPy x :: D.toPyA xs
end
/-- data of a depth below n -/
def D.pd : Nat → D → Bool
  | 0, _ => false
  | n + 1, d => match d with
    | .non => true
    | .bl _ => true
    | .int _ => true
    | .str _ => true
    | .tup xs => xs.all (D.pd n)
    | .lst xs => xs.all (D.pd n)
    | .scr _ => false
    | .dk _ _ => false
    | .dt _ _ => false
    | .own _ => false
def D.eqv (a b : D) : Bool := PyData.eqv a.toPy b.toPy
theorem py_all {n : Nat} (ih : ∀ (d : D) (v : V), D.pd n d = true → Rp K T Hv v d → Dp K H v d.toPy ∧ d.toPy.canLay0 = true ∧ d.toPy.depth ≤ n) : ∀ (ds : List D) (vs : List V), ds.all (D.pd n) = true → RpA K T Hv vs ds → DpAll K H vs (D.toPyA ds) ∧ PyData.canLayAll0 (D.toPyA ds) = true ∧ PyData.depthAll (D.toPyA ds) ≤ n
  | [], _, _, h => by
    cases h
    exact ⟨.nil, by simp [D.toPyA, PyData.canLayAll0], by simp [D.toPyA, PyData.depthAll]⟩
  | d :: ds, _, hp, h => by
    cases h with
    | cons q r =>
      rw [List.all_cons, Bool.and_eq_true] at hp
      obtain ⟨h1, h2, h3⟩ := ih d _ hp.1 q
      obtain ⟨k1, k2, k3⟩ := py_all ih ds _ hp.2 r
      refine ⟨.cons h1 k1, by simp [D.toPyA, PyData.canLayAll0, h2, k2], ?_⟩
      simp only [D.toPyA, PyData.depthAll]
      omega
theorem py_of (e : Exts Hv H) : ∀ (n : Nat) (d : D) (v : V), D.pd n d = true → Rp K T Hv v d → Dp K H v d.toPy ∧ d.toPy.canLay0 = true ∧ d.toPy.depth ≤ n
  | 0, d, v, h, _ => by simp [D.pd] at h
  | n + 1, d, v, h, r => by
    cases d with
    | non => rw [r.inv_non]; exact ⟨by simp only [D.toPy]; exact .non, by simp [D.toPy, PyData.canLay0], by simp [D.toPy, PyData.depth]⟩
    | bl b => rw [r.inv_bl]; exact ⟨by simp only [D.toPy]; exact .bl b, by simp [D.toPy, PyData.canLay0], by simp [D.toPy, PyData.depth]⟩
    | int b => rw [r.inv_int]; exact ⟨by simp only [D.toPy]; exact .int b, by simp [D.toPy, PyData.canLay0], by simp [D.toPy, PyData.depth]⟩
    | str b =>
      obtain ⟨z, k⟩ := r.inv_str
      rw [z]
      exact ⟨by simp only [D.toPy]; exact .str b, by simp only [D.toPy, PyData.canLay0]; exact k, by simp [D.toPy, PyData.depth]⟩
    | tup xs =>
      obtain ⟨a, vs, rfl, h1, h2⟩ := r.inv_tup
      have hx : xs.all (D.pd n) = true := h
      obtain ⟨k1, k2, k3⟩ := py_all (py_of e n) xs vs hx h2
      refine ⟨by simp only [D.toPy]; exact .tup (e.sqT h1) k1, by simp only [D.toPy, PyData.canLay0]; exact k2, ?_⟩
      simp only [D.toPy, PyData.depth]
      omega
    | lst xs =>
      obtain ⟨a, vs, rfl, h1, h2⟩ := r.inv_lst
      have hx : xs.all (D.pd n) = true := h
      obtain ⟨k1, k2, k3⟩ := py_all (py_of e n) xs vs hx h2
      refine ⟨by simp only [D.toPy]; exact .lst (.inl (.inl (e _ _ h1))) k1, by simp only [D.toPy, PyData.canLay0]; exact k2, ?_⟩
      simp only [D.toPy, PyData.depth]
      omega
    | scr xs => simp [D.pd] at h
    | dk xs ys => simp [D.pd] at h
    | dt xs ys => simp [D.pd] at h
    | own m => simp [D.pd] at h
def eqD (a b : D) : Option D := if D.pd 60 a && D.pd 60 b then some (.bl (D.eqv a b)) else none
def neD (a b : D) : Option D := if D.pd 60 a && D.pd 60 b then some (.bl (!D.eqv a b)) else none
theorem shaped_of {p : PyData} (h1 : p.canLay0 = true) (h2 : p.depth ≤ 60) : SeqAt.shaped p = true := by
  unfold SeqAt.shaped
  rw [h1, Bool.true_and]
  exact decide_eq_true (by omega)
theorem o_eq : Op2 K (rEqD K) eqD := fun {c os ρ μ σ H x y d1 d2 d Q} r p1 p2 e q => by
  unfold eqD at e
  split at e
  · rename_i hl
    cases e
    rw [Bool.and_eq_true] at hl
    obtain ⟨a1, a2, a3⟩ := py_of vw_le _ _ _ hl.1 p1
    obtain ⟨b1, b2, b3⟩ := py_of vw_le _ _ _ hl.2 p2
    exact ⟨_, _, a1, b1, shaped_of a2 a3, shaped_of b2 b3, VOk.same q r (.bl _)⟩
  · cases e
theorem o_ne : Op2 K (rNeD K) neD := fun {c os ρ μ σ H x y d1 d2 d Q} r p1 p2 e q => by
  unfold neD at e
  split at e
  · rename_i hl
    cases e
    rw [Bool.and_eq_true] at hl
    obtain ⟨a1, a2, a3⟩ := py_of vw_le _ _ _ hl.1 p1
    obtain ⟨b1, b2, b3⟩ := py_of vw_le _ _ _ hl.2 p2
    exact ⟨_, _, a1, b1, shaped_of a2 a3, shaped_of b2 b3, VOk.same q r (.bl _)⟩
  · cases e
/-! ### is None -/
def D.isNon : D → Bool
  | .non => true
  | _ => false
def isN (a b : D) : Option D := match b with
  | .non => some (.bl a.isNon)
  | _ => none
def notN (a b : D) : Option D := match b with
  | .non => some (.bl (!a.isNon))
  | _ => none
theorem Rp.isNon {v : V} {d : D} (h : Rp K T Hv v d) : decide (v = .non) = d.isNon := by
  cases h <;> simp [D.isNon]
theorem o_isN : Op2 K (fun x y H Q => y = .non ∧ Q (.bl (decide (x = .non))) H) isN := fun {c os ρ μ σ H x y d1 d2 d Q} r p1 p2 e q => by
  unfold isN at e
  split at e
  · cases e
    refine ⟨p2.inv_non, ?_⟩
    rw [p1.isNon]
    exact VOk.same q r (.bl _)
  · cases e
theorem o_notN : Op2 K (fun x y H Q => y = .non ∧ Q (.bl (!decide (x = .non))) H) notN := fun {c os ρ μ σ H x y d1 d2 d Q} r p1 p2 e q => by
  unfold notN at e
  split at e
  · cases e
    refine ⟨p2.inv_non, ?_⟩
    rw [p1.isNon]
    exact VOk.same q r (.bl _)
  · cases e
/-! ### in, not in -/
def D.flat : D → Bool
  | .non => true
  | .bl _ => true
  | .int _ => true
  | .str _ => true
  | _ => false
theorem flat_V {v : V} {d : D} (h : Rp K T Hv v d) (f : d.flat = true) : flatV v = true := by
  cases h <;> first | rfl | cases f
theorem flat_all : ∀ {ds : List D} {vs : List V}, RpA K T Hv vs ds → ds.all D.flat = true → vs.all flatV = true
  | [], _, h, _ => by cases h; rfl
  | d :: ds, _, h, f => by
    cases h with
    | cons q r =>
      rw [List.all_cons, Bool.and_eq_true] at f ⊢
      exact ⟨flat_V q f.1, flat_all r f.2⟩
theorem flat_eq {v w : V} {d e : D} (h : Rp K T Hv v d) (k : Rp K T Hv w e) (f : d.flat = true) (g : e.flat = true) : eqV v w = D.eqv d e := by
  cases h <;> first | (cases f; done) | (cases k <;> first | (cases g; done) | (simp [eqV, D.eqv, D.toPy, PyData.eqv]; done))
theorem flat_any {w : V} {e : D} (k : Rp K T Hv w e) (g : e.flat = true) : ∀ {ds : List D} {vs : List V}, RpA K T Hv vs ds → ds.all D.flat = true → inV w vs = ds.any fun z => D.eqv z e
  | [], _, h, _ => by cases h; rfl
  | d :: ds, _, h, f => by
    cases h with
    | cons q r =>
      rw [List.all_cons, Bool.and_eq_true] at f
      have ih := flat_any k g r f.2
      unfold inV at ih ⊢
      rw [List.any_cons, List.any_cons, ih, flat_eq q k f.1 g]
def inSq (n : Bool) (a b : D) : Option D := match b with
  | .lst ys => if a.flat && ys.all D.flat then some (.bl (if n then !(ys.any fun z => D.eqv z a) else ys.any fun z => D.eqv z a)) else none
  | .tup ys => if a.flat && ys.all D.flat then some (.bl (if n then !(ys.any fun z => D.eqv z a) else ys.any fun z => D.eqv z a)) else none
  | _ => none
theorem o_inSq {n : Bool} : Op2 K (rIn K n) (inSq n) := fun {c os ρ μ σ H x y d1 d2 d Q} r p1 p2 e q => by
  unfold inSq at e
  split at e
  · split at e
    · rename_i hl
      cases e
      rw [Bool.and_eq_true] at hl
      obtain ⟨a, vs, rfl, h1, k1⟩ := p2.inv_lst
      refine ⟨a, vs, rfl, .inl (.inl (.inl (vw_le _ _ h1))), flat_V p1 hl.1, flat_all k1 hl.2, ?_⟩
      rw [flat_any p1 hl.1 k1 hl.2]
      exact VOk.same q r (.bl _)
    · cases e
  · split at e
    · rename_i hl
      cases e
      rw [Bool.and_eq_true] at hl
      obtain ⟨a, vs, rfl, h1, k1⟩ := p2.inv_tup
      refine ⟨a, vs, rfl, .inr (vw_le.sqT h1), flat_V p1 hl.1, flat_all k1 hl.2, ?_⟩
      rw [flat_any p1 hl.1 k1 hl.2]
      exact VOk.same q r (.bl _)
    · cases e
  · cases e
def inStr (a b : D) : Option D := match a, b with
  | .str x, .str y => some (.bl (!(Builtin.Str.occurrences y x 0 y.length 1).isEmpty))
  | _, _ => none
theorem o_inStr : Op2 K (fun x y H Q => ∃ i j, x = .str i ∧ y = .str j ∧ Q (.bl (!(Builtin.Str.occurrences j i 0 j.length 1).isEmpty)) H) inStr := fun {c os ρ μ σ H x y d1 d2 d Q} r p1 p2 e q => by
  unfold inStr at e
  split at e
  · cases e
    exact ⟨_, _, p1.inv_str.1, p2.inv_str.1, VOk.same q r (.bl _)⟩
  · cases e
end
end DC
set_option Elab.async false
set_option linter.all false
set_option maxRecDepth 100000
set_option maxHeartbeats 2000000
/-! DC: lending, subscripts, slices, built-ins. -/
namespace DC
open PySem PySem.Spec PyProof.Rows L2
/-! ### an own container lent to an expression -/
/-- a value in which no container stands that could be changed -/
def D.lf : Nat → D → Bool
  | 0, _ => false
  | n + 1, d => match d with
    | .non => true
    | .bl _ => true
    | .int _ => true
    | .str _ => true
    | .tup xs => xs.all (D.lf n)
    | .own _ => true
    | _ => false
def xBor (i : Nat) (f : XD) : XD := fun ρ μ => match ρ[i]? with
  | some (.ow d) => (f (ρ.set i (.fz d)) μ).bind fun r μ' => if D.lf 8 r then .ok r μ' else .fail
  | _ => f ρ μ
def bBor (i : Nat) (f : XB) : XB := fun ρ μ => match ρ[i]? with
  | some (.ow d) => f (ρ.set i (.fz d)) μ
  | _ => f ρ μ
section
variable {K : PySem.W.Frag} {cl : Nat → Addr} {W : WX} {c : Ct} {os : List (Option Addr)} {ρ : Env} {μ : Store} {σ : L2.St} {H H' : Hp} {Q : VK} {d : D} {x : Exn}
theorem sqT_ne {Hv Hw : Hp} {a : Addr} (hn : ∀ b o, Hv b = some o → b ≠ a → Hw b = some o) (ha : ∀ xs o, Hv a ≠ some (.tup xs) ∧ Hv a ≠ some (.frz o (.tup xs))) {b : Addr} {xs : List V} (h : SqT K Hv b xs) : SqT K Hw b xs := by
  rcases h with (h | ⟨o, h⟩) | h
  · exact .inl (.inl (hn _ _ h fun z => by subst z; exact (ha xs default).1 h))
  · exact .inl (.inr ⟨o, hn _ _ h fun z => by subst z; exact (ha xs o).2 h⟩)
  · exact .inr h
theorem lf_all {Hv Hw : Hp} {T : List Addr} {n : Nat} (ih : ∀ (d : D) (v : V), D.lf n d = true → Rp K T Hv v d → Rp K T Hw v d) : ∀ (ds : List D) (vs : List V), ds.all (D.lf n) = true → RpA K T Hv vs ds → RpA K T Hw vs ds
  | [], _, _, h => by cases h; exact .nil
  | d :: ds, _, f, h => by
    cases h with
    | cons q r =>
      rw [List.all_cons, Bool.and_eq_true] at f
      exact .cons (ih d _ f.1 q) (lf_all ih ds _ f.2 r)
theorem lf_rp {Hv Hw : Hp} {T : List Addr} (ht : ∀ b xs, SqT K Hv b xs → SqT K Hw b xs) : ∀ (n : Nat) (d : D) (v : V), D.lf n d = true → Rp K T Hv v d → Rp K T Hw v d
  | 0, _, _, f, _ => by simp [D.lf] at f
  | n + 1, d, v, f, h => by
    cases d with
    | non => cases h; exact .non
    | bl b => cases h; exact .bl b
    | int b => cases h; exact .int b
    | str b => cases h with | str q => exact .str q
    | tup xs =>
      obtain ⟨a, vs, rfl, h1, h2⟩ := h.inv_tup
      have fx : xs.all (D.lf n) = true := f
      exact .tup (ht _ _ h1) (lf_all (lf_rp ht n) xs vs fx h2)
    | lst xs => simp [D.lf] at f
    | scr xs => simp [D.lf] at f
    | dk xs ys => simp [D.lf] at f
    | dt xs ys => simp [D.lf] at f
    | own m => cases h with | own q => exact .own q
theorem own_noTup {Hv : Hp} {a : Addr} {T : List Addr} (h : OwAt K T Hv H a d) (xs : List V) (o : Obj) : H a ≠ some (.tup xs) ∧ H a ≠ some (.frz o (.tup xs)) := by
  cases h with
  | lst h _ => rw [h]; exact ⟨(by intro z; cases z), (by intro z; cases z)⟩
  | dk h _ _ => rw [h]; exact ⟨(by intro z; cases z), (by intro z; cases z)⟩
  | dt h _ _ => rw [h]; exact ⟨(by intro z; cases z), (by intro z; cases z)⟩
theorem lent (r : Rl K c os ρ μ σ H) {i : Nat} (h : ρ[i]? = some (.ow d)) {μ' : Store} (q : Rl K c (os.set i none) (ρ.set i (.fz d)) μ' σ H') (k : Kp c H H') {n : Nat} {e : D} {v : V} (f : D.lf n e = true) (p : Rp K c.T (vw c (os.set i none) H') v e) : Rp K c.T (vw c os H') v e := by
  obtain ⟨a, h1, h2, h3⟩ := r.getOw h
  have hm : some a ∈ os := List.mem_of_getElem? h2
  have nT := (r.own a hm).1
  refine lf_rp (fun b xs hb => sqT_ne (a := a) (fun b o hb nb => ?_) (fun xs o => ?_) hb) n e v f p
  · obtain ⟨g1, g2, g3, g4⟩ := vw_some.mp hb
    refine vw_some.mpr ⟨g1, g2, g3, fun z => g4 ?_⟩
    obtain ⟨j, hj⟩ := List.getElem?_of_mem z
    have nj : i ≠ j := fun e => by
      subst e
      rw [h2] at hj
      exact nb (Option.some.inj (Option.some.inj hj)).symm
    exact List.mem_of_getElem? (i := j) (by rw [List.getElem?_set_ne nj]; exact hj)
  · obtain ⟨o', ho⟩ := h3.there
    have z := own_noTup h3 xs o
    have ha' : H' a = H a := by rw [ho]; exact k a o' ho nT
    refine ⟨fun w => z.1 ?_, fun w => z.2 ?_⟩
    · rw [← ha']; exact vw_le _ _ w
    · rw [← ha']; exact vw_le _ _ w
theorem EOk.reown (r : Rl K c os ρ μ σ H) {i : Nat} {μ1 : Store} (h : EOk K cl W c os ρ σ H x μ1) (hp : x.pay = none) : EOk K cl W c (os.set i none) (ρ.set i (.fz d)) σ H x μ1 := fun e dx H' q k ex => h e dx H' (r.reown q k) k (by
  unfold ExAt at ex ⊢
  rw [hp] at ex ⊢
  exact ex)
end
section
variable {X : Cx} {cl : Nat → Addr} {W : WX} {e : Expr} {f : XD} {t : XB}
/-- exceptions out of it must bear nothing -/
def Plain {α : Type} (f : Env → Store → Res α) : Prop := ∀ ρ μ x μ', f ρ μ = .exc x μ' → x.pay = none
theorem dBor {i : Nat} (h : PE X e (tE X.K cl W f)) (hp : Plain f) : PE X e (tE X.K cl W (xBor i f)) := pe_imp h fun σ H Q => by
  rintro ⟨c, os, ρ, μ, r, h⟩
  unfold xBor at h
  split at h
  · rename_i d e0
    refine ⟨c, os.set i none, ρ.set i (.fz d), μ, r.freeze e0, ?_⟩
    have h' := Out.bind h
    cases ef : f (ρ.set i (.fz d)) μ with
    | fail => rw [ef] at h'; exact h'
    | exc x μ1 => rw [ef] at h'; exact EOk.reown r h' (hp _ _ _ _ ef)
    | ok d1 μ1 =>
      rw [ef] at h'
      by_cases hl : D.lf 8 d1 = true
      · have h2 : Out (if D.lf 8 d1 then Res.ok d1 μ1 else .fail) (VOk X.K c os ρ σ H Q) (EOk X.K cl W c os ρ σ H) := h'
        rw [if_pos hl] at h2
        intro v1 H1 r1 e1 p1
        exact h2 v1 H1 (r.reown r1 e1) e1 (lent r e0 r1 e1 hl p1)
      · have h2 : Out (if D.lf 8 d1 then Res.ok d1 μ1 else .fail) (VOk X.K c os ρ σ H Q) (EOk X.K cl W c os ρ σ H) := h'
        rw [if_neg hl] at h2
        exact False.elim h2
  · exact ⟨c, os, ρ, μ, r, h⟩
theorem bBorE {i : Nat} (h : PT X e (tT X.K cl W t)) (hp : Plain t) : PT X e (tT X.K cl W (bBor i t)) := pt_imp h fun σ H Q => by
  rintro ⟨c, os, ρ, μ, r, h⟩
  unfold bBor at h
  split at h
  · rename_i d e0
    refine ⟨c, os.set i none, ρ.set i (.fz d), μ, r.freeze e0, ?_⟩
    cases ef : t (ρ.set i (.fz d)) μ with
    | fail => rw [ef] at h; exact h
    | exc x μ1 => rw [ef] at h; exact EOk.reown r h (hp _ _ _ _ ef)
    | ok d1 μ1 =>
      rw [ef] at h
      intro H1 r1 e1
      exact h H1 (r.reown r1 e1) e1
  · exact ⟨c, os, ρ, μ, r, h⟩
end
/-! ### subscripts -/
def ixD (a i : D) : Option D := match i with
  | .int k => match a with
    | .tup xs => atI xs k
    | .lst xs => atI xs k
    | .scr ns => (atI ns k).map D.int
    | .str z => if Nat.ble z.length 1000000 then (atI z.cps.toList k).bind fun c => if Nat.blt c 1114112 then some (.str ⟨#[c]⟩) else none else none
    | _ => none
  | _ => none
def ixS (μ : Store) (a i : D) : Option D := match a with
  | .own n => match i with
    | .int k => (μ[n]?).bind fun ns => (atI ns k).map D.int
    | _ => none
  | _ => ixD a i
def xIx (f1 f2 : XD) : XD := fun ρ μ => (f1 ρ μ).bind fun a μ1 => (f2 ρ μ1).bind fun b μ2 => Res.ofO (ixS μ2 a b) μ2
section
variable {K : PySem.W.Frag} {T : List Addr} {H Hv : Hp}
theorem atI_some {α : Type} {xs : List α} {k : Int} {x : α} (h : atI xs k = some x) : ∃ j, ixN xs.length k = some j ∧ xs[j]? = some x := by
  unfold atI at h
  obtain ⟨j, h1, h2⟩ := Option.bind_eq_some_iff.mp h
  exact ⟨j, h1, h2⟩
theorem RpA.atI {vs : List V} {ds : List D} (r : RpA K T H vs ds) {k : Int} {d : D} (h : L2.atI ds k = some d) : ∃ v, L2.atI vs k = some v ∧ Rp K T H v d := by
  obtain ⟨j, h1, h2⟩ := atI_some h
  obtain ⟨v, h3, h4⟩ := r.get h2
  refine ⟨v, ?_, h4⟩
  unfold L2.atI
  rw [r.length, h1]
  exact h3
theorem atI_map {α β : Type} (f : α → β) {xs : List α} {k : Int} : L2.atI (xs.map f) k = (L2.atI xs k).map f := by
  unfold L2.atI
  rw [List.length_map]
  cases ixN xs.length k with
  | none => rfl
  | some j => simp
end
section
variable {X : Cx} {cl : Nat → Addr} {W : WX} {a b : Expr} {f1 f2 : XD} {pos : Pos}
theorem dIx (ha : PE X a (tE X.K cl W f1)) (hb : PE X b (tE X.K cl W f2)) (hs : PlainIx b) : PE X (.Subscript a b pos) (tE X.K cl W (xIx f1 f2)) := pe_imp (pe_ix ix_seq ha hb hs) fun σ H Q => by
  rintro ⟨c, os, ρ, μ, r, h⟩
  refine ⟨c, os, ρ, μ, r, (Out.bind h).imp (fun d1 μ1 h1 => ?_) fun _ _ q => q⟩
  intro v1 H1 r1 e1 p1
  refine ⟨c, os, ρ, μ1, r1, (Out.bind h1).imp (fun d2 μ2 h2 => ?_) fun _ _ q => q.mono e1⟩
  intro v2 H2 r2 e2 p2
  obtain ⟨d, e, h3⟩ := Out.ofO h2
  have q3 := VOk.mono (e1.trans e2) h3
  have p1 := p1.mono e2.vw
  cases d1 with
  | own n =>
    cases d2 with
    | int k =>
      obtain ⟨ns, e3, e4⟩ := Option.bind_eq_some_iff.mp (show (μ2[n]?).bind (fun ns => (atI ns k).map D.int) = some d from e)
      obtain ⟨z, e5, e6⟩ := Option.map_eq_some_iff.mp e4
      subst e6
      obtain ⟨p, hv, hp⟩ := p1.inv_own
      subst hv
      refine .inl ⟨p, ns.map V.int, k, .int z, rfl, p2.inv_int, .inl (.inl (r2.st n p ns hp e3)), ?_, VOk.same q3 r2 (.int z)⟩
      rw [atI_map, e5]
      rfl
    | _ => cases e
  | tup xs =>
    cases d2 with
    | int k =>
      have z2 := p2.inv_int
      subst z2
      obtain ⟨p, vs, hv, g1, g2⟩ := p1.inv_tup
      subst hv
      obtain ⟨v, g3, g4⟩ := g2.atI (show atI xs k = some d from e)
      exact .inr (.inl ⟨p, vs, k, v, rfl, rfl, vw_le.sqT g1, g3, VOk.same q3 r2 g4⟩)
    | _ => cases e
  | lst xs =>
    cases d2 with
    | int k =>
      have z2 := p2.inv_int
      subst z2
      obtain ⟨p, vs, hv, g1, g2⟩ := p1.inv_lst
      subst hv
      obtain ⟨v, g3, g4⟩ := g2.atI (show atI xs k = some d from e)
      exact .inl ⟨p, vs, k, v, rfl, rfl, .inl (.inl (vw_le _ _ g1)), g3, VOk.same q3 r2 g4⟩
    | _ => cases e
  | scr ns =>
    cases d2 with
    | int k =>
      have z2 := p2.inv_int
      subst z2
      obtain ⟨z, e5, e6⟩ := Option.map_eq_some_iff.mp (show (atI ns k).map D.int = some d from e)
      subst e6
      obtain ⟨p, hv, g1⟩ := p1.inv_scr
      subst hv
      refine .inl ⟨p, ns.map V.int, k, .int z, rfl, rfl, vw_le.sqL g1, ?_, VOk.same q3 r2 (.int z)⟩
      rw [atI_map, e5]
      rfl
    | _ => cases e
  | str z =>
    cases d2 with
    | int k =>
      have z2 := p2.inv_int
      subst z2
      have e' : (if Nat.ble z.length 1000000 then (atI z.cps.toList k).bind fun c => if Nat.blt c 1114112 then some (D.str ⟨#[c]⟩) else none else none) = some d := e
      by_cases hl : Nat.ble z.length 1000000 = true
      · rw [if_pos hl] at e'
        obtain ⟨ch, e5, e6⟩ := Option.bind_eq_some_iff.mp e'
        by_cases hc : Nat.blt ch 1114112 = true
        · rw [if_pos hc] at e6
          cases e6
          refine .inr (.inr ⟨z, k, ch, p1.inv_str.1, rfl, ble_line hl, e5, VOk.same q3 r2 (.str ?_)⟩)
          unfold strOk
          simp
          exact Nat.le_of_ble_eq_true hc
        · rw [if_neg hc] at e6
          cases e6
      · rw [if_neg hl] at e'
        cases e'
    | _ => cases e
  | _ => cases d2 <;> cases e
end
/-! ### slices -/
def cutD (xs : List D) (lo hi : Option Int) : List D := (xs.drop (HT.sIx xs.length 0 lo)).take (HT.sIx xs.length xs.length hi - HT.sIx xs.length 0 lo)
def oNone : Env → Store → Res (Option Int) := fun _ μ => .ok none μ
def oSome (f : XD) : Env → Store → Res (Option Int) := fun ρ μ => (f ρ μ).bind fun d μ' => match d with
  | .int i => .ok (some i) μ'
  | _ => .fail
def slT (a : D) (lo hi : Option Int) : Option D := match a with
  | .tup xs => some (.tup (cutD xs lo hi))
  | .str z => if Nat.ble z.length 1000000 then some (.str (cutS z lo hi)) else none
  | .lst xs => some (.lst (cutD xs lo hi))
  | _ => none
def xSl (f : XD) (l h : Env → Store → Res (Option Int)) : XD := fun ρ μ => (f ρ μ).bind fun a μ1 => (l ρ μ1).bind fun lo μ2 => (h ρ μ2).bind fun hi μ3 => Res.ofO (slT a lo hi) μ3
def tO (K : PySem.W.Frag) (cl : Nat → Addr) (W : WX) (f : Env → Store → Res (Option Int)) : TO := fun σ H Q => ∃ c os ρ μ, Rl K c os ρ μ σ H ∧ Out (f ρ μ) (fun b μ' => ∀ H', Rl K c os ρ μ' σ H' → Kp c H H' → Q b H') (EOk K cl W c os ρ σ H)
theorem RpA.cut {K : PySem.W.Frag} {T : List Addr} {H : Hp} {vs : List V} {ds : List D} (r : RpA K T H vs ds) (lo hi : Option Int) : RpA K T H (cutV vs lo hi) (cutD ds lo hi) := by
  unfold cutV cutD
  rw [r.length]
  exact (r.drop _).take _
theorem arr_all_take {p : Nat → Bool} {xs : List Nat} (h : xs.all p = true) (i j : Nat) : ((xs.drop i).take j).all p = true := by
  rw [List.all_eq_true] at h ⊢
  intro x hx
  exact h x (List.mem_of_mem_drop (List.mem_of_mem_take hx))
theorem strOk_iff {x : Str} : strOk x = true ↔ x.cps.toList.all (· < 0x110000) = true := by
  unfold strOk
  rw [← Array.all_toList]
theorem po_imp {X : Cx} {e : Option Expr} {t t' : TO} (h : PO X e t) (i : ∀ σ H Q, t' σ H Q → t σ H Q) : PO X e t' := ⟨fun pins s σ H Q I q => h.run pins s σ H Q I (i σ H Q q)⟩
section
variable {X : Cx} {cl : Nat → Addr} {W : WX} {e : Expr} {f : XD} {pos p2 : Pos}
theorem dONone : PO X none (tO X.K cl W oNone) := po_imp po_none fun σ H Q => by
  rintro ⟨c, os, ρ, μ, r, h⟩
  exact h H r (Kp.refl _ _)
theorem dOSome (h : PE X e (tE X.K cl W f)) : PO X (some e) (tO X.K cl W (oSome f)) := po_imp (po_some h) fun σ H Q => by
  rintro ⟨c, os, ρ, μ, r, h⟩
  refine ⟨c, os, ρ, μ, r, (Out.bind h).imp (fun d1 μ1 h1 => ?_) fun _ _ q => q⟩
  intro v1 H1 r1 e1 p1
  cases d1 with
  | int i =>
    have z := p1.inv_int
    subst z
    exact ⟨i, rfl, h1 H1 r1 e1⟩
  | _ => exact False.elim h1
end
end DC
set_option Elab.async false
set_option linter.all false
set_option maxRecDepth 100000
set_option maxHeartbeats 2000000
/-! DC: slices taken, isinstance, built-ins by values. -/
namespace DC
open PySem PySem.Spec PyProof.Rows L2
section
variable {X : Cx} {cl : Nat → Addr} {W : WX} {e : Expr} {f : XD} {pos p2 : Pos} {lo hi : Option Expr} {fl fh : Env → Store → Res (Option Int)}
theorem cutS_ok {z : Str} (h : strOk z = true) (lo hi : Option Int) : strOk (cutS z lo hi) = true := by
  rw [strOk_iff] at h ⊢
  exact arr_all_take h _ _
theorem dSl (he : PE X e (tE X.K cl W f)) (hl : PO X lo (tO X.K cl W fl)) (hh : PO X hi (tO X.K cl W fh)) : PE X (.Subscript e (.Slice lo hi none p2) pos) (tE X.K cl W (xSl f fl fh)) := pe_imp (pe_slice (sl_list.or (sl_tupA.or sl_str)) he hl hh) fun σ H Q => by
  rintro ⟨c, os, ρ, μ, r, h⟩
  refine ⟨c, os, ρ, μ, r, (Out.bind h).imp (fun d1 μ1 h1 => ?_) fun _ _ q => q⟩
  intro v1 H1 r1 e1 p1
  refine ⟨c, os, ρ, μ1, r1, (Out.bind h1).imp (fun l μ2 h2 => ?_) fun _ _ q => q.mono e1⟩
  intro H2 r2 e2
  refine ⟨c, os, ρ, μ2, r2, (Out.bind h2).imp (fun u μ3 h3 => ?_) fun _ _ q => q.mono (e1.trans e2)⟩
  intro H3 r3 e3
  obtain ⟨d, e, h4⟩ := Out.ofO h3
  have q := VOk.mono ((e1.trans e2).trans e3) h4
  have p := p1.mono (e2.trans e3).vw
  unfold slT at e
  split at e
  · rename_i xs
    cases e
    obtain ⟨a, vs, hv, g1, g2⟩ := p.inv_tup
    subst hv
    refine .inr (.inl ⟨a, vs, rfl, vw_le.sqT g1, fun z => ?_, fun _ p n => VOk.newT q r3 (g2.cut l u) n⟩)
    have ec : cutD xs l u = xs := by
      unfold cutD
      rw [← g2.length, z.1, z.2, List.drop_zero, Nat.sub_zero, g2.length, List.take_length]
    rw [ec] at q
    exact VOk.same q r3 (.tup g1 g2)
  · split at e
    · rename_i hl
      cases e
      obtain ⟨z1, z2⟩ := p.inv_str
      exact .inr (.inr ⟨_, z1, ble_line hl, VOk.same q r3 (.str (cutS_ok z2 _ _))⟩)
    · cases e
  · cases e
    obtain ⟨a, vs, hv, g1, g2⟩ := p.inv_lst
    subst hv
    exact .inl ⟨a, vs, rfl, .inl (.inl (vw_le _ _ g1)), fun p n => VOk.newL q r3 (g2.cut l u) n⟩
  · cases e
end
/-! ### isinstance -/
/-- the name of a value's class -/
def D.cn : D → String
  | .non => "NoneType"
  | .bl _ => "bool"
  | .int _ => "int"
  | .str _ => "str"
  | .tup _ => "tuple"
  | .lst _ => "list"
  | .scr _ => "list"
  | .dk _ _ => "dict"
  | .dt _ _ => "dict"
  | .own _ => "list"
inductive Ty where
  | bool | int | str | tuple | list | dict
def Ty.nm : Ty → String
  | .bool => "bool"
  | .int => "int"
  | .str => "str"
  | .tuple => "tuple"
  | .list => "list"
  | .dict => "dict"
def Ty.has : Ty → D → Bool
  | .bool, .bl _ => true
  | .int, .int _ => true
  | .int, .bl _ => true
  | .str, .str _ => true
  | .tuple, .tup _ => true
  | .list, .lst _ => true
  | .list, .scr _ => true
  | .list, .own _ => true
  | .dict, .dk _ _ => true
  | .dict, .dt _ _ => true
  | _, _ => false
def Ty.nms (t : Ty) (s : String) : Bool := match t with
  | .bool => s == "bool"
  | .int => s == "int" || s == "bool"
  | .str => s == "str"
  | .tuple => s == "tuple"
  | .list => s == "list"
  | .dict => s == "dict"
theorem Ty.has_nms (t : Ty) (d : D) : t.has d = t.nms d.cn := by cases t <;> cases d <;> rfl
theorem kit_all : ∀ (t : Ty) (s : String), s ∈ ["NoneType", "bool", "int", "str", "tuple", "list", "dict"] → kitB s t.nm = some (t.nms s) := by
  intro t s hs
  simp only [List.mem_cons, List.not_mem_nil, or_false] at hs
  rcases hs with h | h | h | h | h | h | h <;> subst h <;> cases t <;> decide +kernel
theorem D.cn_mem (d : D) : d.cn ∈ ["NoneType", "bool", "int", "str", "tuple", "list", "dict"] := by cases d <;> simp [D.cn]
/-- all values but dicts with tuple keys -/
def isiD (t : Ty) (d : D) : Option D := match d with
  | .dt _ _ => none
  | _ => some (.bl (t.has d))
section
variable {X : Cx} {cl : Nat → Addr} {W : WX} {e : Expr} {f : XD} {pos p p2 : Pos} {x : Str}
theorem tyX_of' {K : PySem.W.Frag} {c : Ct} {os : List (Option Addr)} {ρ : Env} {μ : Store} {σ : L2.St} {H : Hp} (r : Rl K c os ρ μ σ H) {v : V} {d : D} (p : Rp K c.T (vw c os H) v d) (nf : ∀ ks vs, d ≠ .dt ks vs) : TyX K H v (.type d.cn) := by
  cases p with
  | dt h _ _ => exact absurd rfl (nf _ _)
  | non => exact .base .non
  | bl b => exact .base (.bl b)
  | int i => exact .base (.int i)
  | str _ => exact .base (.str _)
  | tup h _ =>
    rcases h with (h | ⟨o, h⟩) | ⟨o, its, n, h1, h2, _⟩
    · exact .base (.tup (vw_le _ _ h))
    · exact .fTuple (vw_le _ _ h)
    · exact .kTuple h1 h2
  | lst h _ => exact .base (.lst (vw_le _ _ h))
  | scr h =>
    rcases h with (h | ⟨o, h⟩) | ⟨o, its, n, h1, h2, _⟩
    · exact .base (.lst (vw_le _ _ h))
    · exact .base (.frz (vw_le _ _ h))
    · exact .kList h1 h2
  | dk h _ _ =>
    rcases h with h | ⟨o, h⟩
    · exact .base (.dK (vw_le _ _ h))
    · exact .fDict (vw_le _ _ h)
  | own h =>
    have hm : _ ∈ c.T := List.mem_of_getElem? h
    obtain ⟨i, hi⟩ := List.getElem?_of_mem hm
    have hlt : i < c.T.length := (List.getElem?_eq_some_iff.mp hi).1
    have h1 : i < μ.length := by rw [r.sm]; exact hlt
    exact .base (.lst (r.st i _ _ hi (List.getElem?_eq_getElem h1)))
theorem dIsi (t : Ty) (hg : Gl X "isinstance") (hm : X.mg "isinstance" = none) (hgt : Gl X x) (hmt : X.mg x = none) (hv : bootBuiltins x = some (.type t.nm)) (he : PE X e (tE X.K cl W f)) (hn : x ≠ "__name__" := by decide) (hdb : (x == ("__debug__" : Str)) = false := by decide)
    (hs : starEach [e, .Name x p2] X.env = (false, eval e X.env) :: starEach [.Name x p2] X.env := by rfl) (hpl : (backTo pos (starEach [.Name x p2] X.env)).any (·.1) = false := by rfl) :
    PE X (.Call (.Name "isinstance" p) [e, .Name x p2] [] pos) (tE X.K cl W (xUn (isiD t) f)) :=
  pe_imp (pe_callB call_isi hg hm (by decide +kernel) (pa_cons he (pa_cons (pe_bltn (v := .ty t.nm) hgt hmt hv rfl hn hdb) pa_nil rfl) hs) (by decide) (by decide) hs hpl) fun σ H Q => by
  rintro ⟨c, os, ρ, μ, r, h⟩
  refine ⟨c, os, ρ, μ, r, (Out.bind h).imp (fun d1 μ1 h1 => ?_) fun _ _ q => q⟩
  intro v1 H1 r1 e1 p1
  obtain ⟨d, e, h3⟩ := Out.ofO h1
  have q := VOk.mono e1 h3
  have nd : ∀ ks vs, d1 ≠ .dt ks vs := fun ks vs z => by subst z; cases e
  have e' : d = .bl (t.has d1) := by
    unfold isiD at e
    split at e
    · cases e
    · exact (Option.some.inj e).symm
  subst e'
  refine ⟨v1, .ty t.nm, .type d1.cn, .type t.nm, t.has d1, rfl, .ty _, tyX_of' r1 p1 nd, kit_ty (by rw [Ty.has_nms]; exact kit_all t _ (D.cn_mem d1)), VOk.same q r1 (.bl _)⟩
end
/-! ### built-ins -/
section
variable {K : PySem.W.Frag}
theorem RpA.one {T : List Addr} {H : Hp} {vs : List V} {d : D} (h : RpA K T H vs [d]) : ∃ v, vs = [v] ∧ Rp K T H v d := by
  cases h with
  | cons q r => cases r; exact ⟨_, rfl, q⟩
theorem RpA.two {T : List Addr} {H : Hp} {vs : List V} {d e : D} (h : RpA K T H vs [d, e]) : ∃ v w, vs = [v, w] ∧ Rp K T H v d ∧ Rp K T H w e := by
  cases h with
  | cons q r => obtain ⟨w, z, p⟩ := r.one; subst z; exact ⟨_, _, rfl, q, p⟩
def lenD : List D → Option D
  | [.str z] => if Nat.ble z.length 1000000 then some (.int z.length) else none
  | [.tup xs] => some (.int xs.length)
  | [.lst xs] => some (.int xs.length)
  | [.scr xs] => some (.int xs.length)
  | _ => none
theorem c_len : CbD K (fun xs H Q => ∃ x n, xs = [x] ∧ LenV K x H n ∧ Q (.int n) H) lenD := fun {c os ρ μ σ H vs ds d Q} r p e q => by
  unfold lenD at e
  split at e
  · split at e
    · rename_i hl
      cases e
      obtain ⟨v, z, pv⟩ := p.one
      subst z
      have z := pv.inv_str.1
      subst z
      exact ⟨_, _, rfl, ⟨ble_line hl, rfl⟩, VOk.same q r (.int _)⟩
    · cases e
  · cases e
    obtain ⟨v, z, pv⟩ := p.one
    subst z
    obtain ⟨a, us, z, g1, g2⟩ := pv.inv_tup
    subst z
    refine ⟨_, _, rfl, .inr ⟨us, vw_le.sqT g1, rfl⟩, ?_⟩
    rw [g2.length]
    exact VOk.same q r (.int _)
  · cases e
    obtain ⟨v, z, pv⟩ := p.one
    subst z
    obtain ⟨a, us, z, g1, g2⟩ := pv.inv_lst
    subst z
    refine ⟨_, _, rfl, .inl ⟨us, .inl (.inl (vw_le _ _ g1)), rfl⟩, ?_⟩
    rw [g2.length]
    exact VOk.same q r (.int _)
  · cases e
    obtain ⟨v, z, pv⟩ := p.one
    subst z
    obtain ⟨a, z, g1⟩ := pv.inv_scr
    subst z
    refine ⟨_, _, rfl, .inl ⟨_, vw_le.sqL g1, rfl⟩, ?_⟩
    rw [List.length_map]
    exact VOk.same q r (.int _)
  · cases e
def absD : List D → Option D
  | [.int i] => some (.int (if i < 0 then -i else i))
  | _ => none
theorem c_abs : CbD K (fun xs H Q => ∃ i, xs = [.int i] ∧ Q (.int (if i < 0 then -i else i)) H) absD := fun {c os ρ μ σ H vs ds d Q} r p e q => by
  unfold absD at e
  split at e
  · cases e
    obtain ⟨v, z, pv⟩ := p.one
    subst z
    exact ⟨_, by rw [pv.inv_int], VOk.same q r (.int _)⟩
  · cases e
def max2D : List D → Option D
  | [.int i, .int j] => some (.int (if j > i then j else i))
  | _ => none
def min2D : List D → Option D
  | [.int i, .int j] => some (.int (if j < i then j else i))
  | _ => none
theorem c_max2 : CbD K (fun xs H Q => ∃ i j, xs = [.int i, .int j] ∧ Q (.int (if j > i then j else i)) H) max2D := fun {c os ρ μ σ H vs ds d Q} r p e q => by
  unfold max2D at e
  split at e
  · cases e
    obtain ⟨v, w, z, pv, pw⟩ := p.two
    subst z
    exact ⟨_, _, by rw [pv.inv_int, pw.inv_int], VOk.same q r (.int _)⟩
  · cases e
theorem c_min2 : CbD K (fun xs H Q => ∃ i j, xs = [.int i, .int j] ∧ Q (.int (if j < i then j else i)) H) min2D := fun {c os ρ μ σ H vs ds d Q} r p e q => by
  unfold min2D at e
  split at e
  · cases e
    obtain ⟨v, w, z, pv, pw⟩ := p.two
    subst z
    exact ⟨_, _, by rw [pv.inv_int, pw.inv_int], VOk.same q r (.int _)⟩
  · cases e
def intD : List D → Option D
  | [.int i] => some (.int i)
  | [.bl k] => some (.int (if k then 1 else 0))
  | _ => none
theorem c_int : CbD K (fun xs H Q => (∃ i, xs = [.int i] ∧ Q (.int i) H) ∨ ∃ k, xs = [.bl k] ∧ Q (.int (if k then 1 else 0)) H) intD := fun {c os ρ μ σ H vs ds d Q} r p e q => by
  unfold intD at e
  split at e
  · cases e
    obtain ⟨v, z, pv⟩ := p.one
    subst z
    exact .inl ⟨_, by rw [pv.inv_int], VOk.same q r (.int _)⟩
  · cases e
    obtain ⟨v, z, pv⟩ := p.one
    subst z
    exact .inr ⟨_, by rw [pv.inv_bl], VOk.same q r (.int _)⟩
  · cases e
/-- the ints of a list -/
def D.ints : List D → Option (List Int)
  | [] => some []
  | .int i :: r => (D.ints r).map (i :: ·)
  | _ :: _ => none
theorem D.ints_eq : ∀ {ds : List D} {ns : List Int}, D.ints ds = some ns → ds = ns.map D.int
  | [], _, h => by cases h; rfl
  | .int i :: r, _, h => by
    obtain ⟨ms, h1, h2⟩ := Option.map_eq_some_iff.mp (show (D.ints r).map (i :: ·) = some _ from h)
    subst h2
    rw [D.ints_eq h1]
    rfl
  | .non :: r, _, h => by cases h
  | .bl _ :: r, _, h => by cases h
  | .str _ :: r, _, h => by cases h
  | .tup _ :: r, _, h => by cases h
  | .lst _ :: r, _, h => by cases h
  | .scr _ :: r, _, h => by cases h
  | .dk _ _ :: r, _, h => by cases h
  | .dt _ _ :: r, _, h => by cases h
  | .own _ :: r, _, h => by cases h
theorem D.ints_map : ∀ ns : List Int, D.ints (ns.map D.int) = some ns
  | [] => rfl
  | n :: ns => by
    show (D.ints (ns.map D.int)).map (n :: ·) = some (n :: ns)
    rw [D.ints_map ns]
    rfl
def D.bls : List D → Option (List Bool)
  | [] => some []
  | .bl i :: r => (D.bls r).map (i :: ·)
  | _ :: _ => none
theorem D.bls_eq : ∀ {ds : List D} {ns : List Bool}, D.bls ds = some ns → ds = ns.map D.bl
  | [], _, h => by cases h; rfl
  | .bl i :: r, _, h => by
    obtain ⟨ms, h1, h2⟩ := Option.map_eq_some_iff.mp (show (D.bls r).map (i :: ·) = some _ from h)
    subst h2
    rw [D.bls_eq h1]
    rfl
  | .non :: r, _, h => by cases h
  | .int _ :: r, _, h => by cases h
  | .str _ :: r, _, h => by cases h
  | .tup _ :: r, _, h => by cases h
  | .lst _ :: r, _, h => by cases h
  | .scr _ :: r, _, h => by cases h
  | .dk _ _ :: r, _, h => by cases h
  | .dt _ _ :: r, _, h => by cases h
  | .own _ :: r, _, h => by cases h
theorem D.bls_map : ∀ ns : List Bool, D.bls (ns.map D.bl) = some ns
  | [] => rfl
  | n :: ns => by
    show (D.bls (ns.map D.bl)).map (n :: ·) = some (n :: ns)
    rw [D.bls_map ns]
    rfl
def sumD : List D → Option D
  | [.lst ds] => (D.ints ds).map fun ns => .int ns.sum
  | _ => none
theorem c_sum : CbD K (rSum K) sumD := fun {c os ρ μ σ H vs ds d Q} r p e q => by
  unfold sumD at e
  split at e
  · obtain ⟨ns, e1, e2⟩ := Option.map_eq_some_iff.mp e
    subst e2
    have z := D.ints_eq e1
    subst z
    obtain ⟨v, z, pv⟩ := p.one
    subst z
    obtain ⟨a, us, z, g1, g2⟩ := pv.inv_lst
    subst z
    have z := g2.ints
    subst z
    exact ⟨a, ns, rfl, .inl (.inl (vw_le _ _ g1)), VOk.same q r (.int _)⟩
  · cases e
def allD : List D → Option D
  | [.lst ds] => (D.bls ds).map fun ns => .bl (ns.all id)
  | _ => none
def anyD : List D → Option D
  | [.lst ds] => (D.bls ds).map fun ns => .bl (ns.any id)
  | _ => none
theorem c_all : CbD K (rAll K) allD := fun {c os ρ μ σ H vs ds d Q} r p e q => by
  unfold allD at e
  split at e
  · obtain ⟨ns, e1, e2⟩ := Option.map_eq_some_iff.mp e
    subst e2
    have z := D.bls_eq e1
    subst z
    obtain ⟨v, z, pv⟩ := p.one
    subst z
    obtain ⟨a, us, z, g1, g2⟩ := pv.inv_lst
    subst z
    have z := g2.bls
    subst z
    exact ⟨a, ns, rfl, .inl (.inl (vw_le _ _ g1)), VOk.same q r (.bl _)⟩
  · cases e
theorem c_any : CbD K (rAny K) anyD := fun {c os ρ μ σ H vs ds d Q} r p e q => by
  unfold anyD at e
  split at e
  · obtain ⟨ns, e1, e2⟩ := Option.map_eq_some_iff.mp e
    subst e2
    have z := D.bls_eq e1
    subst z
    obtain ⟨v, z, pv⟩ := p.one
    subst z
    obtain ⟨a, us, z, g1, g2⟩ := pv.inv_lst
    subst z
    have z := g2.bls
    subst z
    exact ⟨a, ns, rfl, .inl (.inl (vw_le _ _ g1)), VOk.same q r (.bl _)⟩
  · cases e
def listD : List D → Option D
  | [.lst ds] => some (.lst ds)
  | [.tup ds] => some (.lst ds)
  | [.scr ns] => some (.lst (ns.map D.int))
  | _ => none
theorem c_list : CbF K (fun xs H Q => ∃ p ys, xs = [.ref p] ∧ (SqL K H p ys ∨ SqT K H p ys) ∧ ∀ l, H l = none → Q (.ref l) (upd H l (.lst ys))) listD := fun {c os ρ μ σ H vs ds d Q} r p e q => by
  unfold listD at e
  split at e
  · cases e
    obtain ⟨v, z, pv⟩ := p.one
    subst z
    obtain ⟨a, us, z, g1, g2⟩ := pv.inv_lst
    subst z
    exact ⟨a, us, rfl, .inl (.inl (.inl (vw_le _ _ g1))), fun l n => FOk.newL q r g2 n⟩
  · cases e
    obtain ⟨v, z, pv⟩ := p.one
    subst z
    obtain ⟨a, us, z, g1, g2⟩ := pv.inv_tup
    subst z
    exact ⟨a, us, rfl, .inr (vw_le.sqT g1), fun l n => FOk.newL q r g2 n⟩
  · cases e
    obtain ⟨v, z, pv⟩ := p.one
    subst z
    obtain ⟨a, z, g1⟩ := pv.inv_scr
    subst z
    exact ⟨a, _, rfl, .inl (vw_le.sqL g1), fun l n => FOk.newL q r (RpA.of_ints _) n⟩
  · cases e
def tupleD : List D → Option D
  | [.lst ds] => some (.tup ds)
  | [.tup ds] => some (.tup ds)
  | _ => none
theorem c_tuple : CbD K (fun xs H Q => ∃ p ys, xs = [.ref p] ∧ ((SqL K H p ys ∧ ∀ l, H l = none → Q (.ref l) (upd H l (.tup ys))) ∨ (SqT K H p ys ∧ Q (.ref p) H))) tupleD := fun {c os ρ μ σ H vs ds d Q} r p e q => by
  unfold tupleD at e
  split at e
  · cases e
    obtain ⟨v, z, pv⟩ := p.one
    subst z
    obtain ⟨a, us, z, g1, g2⟩ := pv.inv_lst
    subst z
    exact ⟨a, us, rfl, .inl ⟨.inl (.inl (vw_le _ _ g1)), fun l n => VOk.newT q r g2 n⟩⟩
  · cases e
    obtain ⟨v, z, pv⟩ := p.one
    subst z
    obtain ⟨a, us, z, g1, g2⟩ := pv.inv_tup
    subst z
    exact ⟨a, us, rfl, .inr ⟨vw_le.sqT g1, VOk.same q r (.tup g1 g2)⟩⟩
  · cases e
/-- ints in order -/
def insI (x : Int) : List Int → List Int
  | [] => [x]
  | y :: r => if x ≤ y then x :: y :: r else y :: insI x r
def sortI : List Int → List Int
  | [] => []
  | x :: r => insI x (sortI r)
theorem insI_perm (x : Int) : ∀ l : List Int, (insI x l).Perm (x :: l)
  | [] => .refl _
  | y :: r => by
    unfold insI
    split
    · exact .refl _
    · exact ((insI_perm x r).cons y).trans (.swap x y r)
theorem sortI_perm : ∀ l : List Int, (sortI l).Perm l
  | [] => .refl _
  | x :: r => (insI_perm x _).trans ((sortI_perm r).cons x)
theorem insI_sorted (x : Int) : ∀ l : List Int, l.Pairwise (· ≤ ·) → (insI x l).Pairwise (· ≤ ·)
  | [], _ => by unfold insI; exact List.pairwise_singleton _ _
  | y :: r, h => by
    unfold insI
    split
    · rename_i hxy
      refine List.pairwise_cons.mpr ⟨fun z hz => ?_, h⟩
      rcases List.mem_cons.mp hz with e | hz
      · omega
      · have := (List.pairwise_cons.mp h).1 z hz
        omega
    · rename_i hxy
      refine List.pairwise_cons.mpr ⟨fun z hz => ?_, insI_sorted x r (List.pairwise_cons.mp h).2⟩
      rcases List.mem_cons.mp ((insI_perm x r).mem_iff.mp hz) with e | hz
      · omega
      · exact (List.pairwise_cons.mp h).1 z hz
theorem sortI_sorted : ∀ l : List Int, (sortI l).Pairwise (· ≤ ·)
  | [] => List.Pairwise.nil
  | x :: r => insI_sorted x _ (sortI_sorted r)
theorem sorted_uniq : ∀ {l m : List Int}, l.Perm m → l.Pairwise (· ≤ ·) → m.Pairwise (· ≤ ·) → l = m
  | [], m, h, _, _ => by rw [List.nil_perm.mp h]
  | x :: r, [], h, _, _ => by have := h.length_eq; simp at this
  | x :: r, y :: s, h, h1, h2 => by
    have a1 := List.pairwise_cons.mp h1
    have a2 := List.pairwise_cons.mp h2
    have e : x = y := by
      have m1 : x ∈ y :: s := h.mem_iff.mp (by simp)
      have m2 : y ∈ x :: r := h.mem_iff.mpr (by simp)
      rcases List.mem_cons.mp m1 with z1 | z1
      · exact z1
      · rcases List.mem_cons.mp m2 with z2 | z2
        · exact z2.symm
        · have := a1.1 y z2
          have := a2.1 x z1
          omega
    subst e
    rw [sorted_uniq (List.Perm.cons_inv h) a1.2 a2.2]
def sortedID : List D → Option D
  | [.lst ds] => (D.ints ds).map fun ns => .lst ((sortI ns).map D.int)
  | _ => none
theorem c_sortedI : CbF K (rSortedI K) sortedID := fun {c os ρ μ σ H vs ds d Q} r p e q => by
  unfold sortedID at e
  split at e
  · obtain ⟨ns, e1, e2⟩ := Option.map_eq_some_iff.mp e
    subst e2
    have z := D.ints_eq e1
    subst z
    obtain ⟨v, z, pv⟩ := p.one
    subst z
    obtain ⟨a, us, z, g1, g2⟩ := pv.inv_lst
    subst z
    have z := g2.ints
    subst z
    refine ⟨a, ns, rfl, .inl (.inl (vw_le _ _ g1)), fun ns' l h1 h2 n => ?_⟩
    have e : ns' = sortI ns := sorted_uniq (h1.trans (sortI_perm ns).symm) h2 (sortI_sorted ns)
    subst e
    exact FOk.newL q r (RpA.of_ints _) n
  · cases e
end
end DC
set_option Elab.async false
set_option linter.all false
set_option maxRecDepth 100000
set_option maxHeartbeats 2000000
/-! DC: statements. -/
namespace DC
open PySem PySem.Spec PyProof.Rows L2
inductive SRes where
  | nx (ρ : Env) (μ : Store)
  | rt (d : D) (μ : Store)
  | bk (ρ : Env) (μ : Store)
  | ct (ρ : Env) (μ : Store)
  | exc (x : Exn) (ρ : Env) (μ : Store)
  | fail
abbrev SD := Env → Store → SRes
/-- what is handed back: a value, or (fr) a new container -/
def RtOk (K : PySem.W.Frag) (fr : Bool) (c : Ct) (rt : VK) (d : D) (μ : Store) : Prop := match fr with
  | false => ∀ v os ρ σ H, Rl K c os ρ μ σ H → Rp K c.T (vw c os H) v d → rt v H
  | true => ∀ a os ρ σ H, Fr K c os ρ μ σ H a d → rt (.ref a) H
def SOut (K : PySem.W.Frag) (cl : Nat → Addr) (W : WX) (fr : Bool) (c : Ct) (E : Ends) (r : SRes) : Prop := match r with
  | .nx ρ μ => ∀ os σ H, Rl K c os ρ μ σ H → E.nx σ H
  | .rt d μ => RtOk K fr c E.rt d μ
  | .bk ρ μ => ∀ os σ H, Rl K c os ρ μ σ H → E.bk σ H
  | .ct ρ μ => ∀ os σ H, Rl K c os ρ μ σ H → E.ct σ H
  | .exc x ρ μ => ∀ e dx os σ H, Rl K c os ρ μ σ H → ExAt K cl c os x e dx H → W e dx σ H
  | .fail => False
def tS (K : PySem.W.Frag) (cl : Nat → Addr) (W : WX) (fr : Bool) (F : SD) : TS := fun E σ H => ∃ c os ρ μ, Rl K c os ρ μ σ H ∧ SOut K cl W fr c E (F ρ μ)
theorem ps_imp {X : Cx} {st : Stmt} {t t' : TS} (h : PS X st t) (i : ∀ E σ H, t' E σ H → t E σ H) : PS X st t' := ⟨fun pins s σ H E I q => h.run pins s σ H E I (i E σ H q)⟩
theorem pss_imp {X : Cx} {st : List Stmt} {t t' : TS} (h : PSs X st t) (i : ∀ E σ H, t' E σ H → t E σ H) : PSs X st t' := ⟨fun pins s σ H E I q => h.run pins s σ H E I (i E σ H q)⟩
/-! ### denotations of statements -/
def sNext : SD := fun ρ μ => .nx ρ μ
def sSeq (F G : SD) : SD := fun ρ μ => match F ρ μ with
  | .nx ρ' μ' => G ρ' μ'
  | r => r
def Res.st {α : Type} (r : Res α) (ρ : Env) (k : α → Store → SRes) : SRes := match r with
  | .ok a μ => k a μ
  | .exc x μ => .exc x ρ μ
  | .fail => .fail
def sAsg (i : Nat) (f : XD) : SD := fun ρ μ => (f ρ μ).st ρ fun d μ' => .nx (ρ.set i (.fz d)) μ'
def sAsgF (i : Nat) (f : XD) : SD := fun ρ μ => (f ρ μ).st ρ fun d μ' => .nx (ρ.set i (.ow d)) μ'
def sRet (f : XD) : SD := fun ρ μ => (f ρ μ).st ρ fun d μ' => .rt d μ'
def sRetV (i : Nat) : SD := fun ρ μ => match ρ[i]? with
  | some (.ow d) => .rt d μ
  | _ => .fail
def sRetN : SD := fun ρ μ => .rt .non μ
def sIf (t : XB) (F G : SD) : SD := fun ρ μ => (t ρ μ).st ρ fun b μ' => if b then F ρ μ' else G ρ μ'
def sExpr (f : XD) : SD := fun ρ μ => (f ρ μ).st ρ fun _ μ' => .nx ρ μ'
def sFrz (i : Nat) (F : SD) : SD := fun ρ μ => match ρ[i]? with
  | some (.ow d) => F (ρ.set i (.fz d)) μ
  | _ => F ρ μ
def sBrk : SD := fun ρ μ => .bk ρ μ
def sCnt : SD := fun ρ μ => .ct ρ μ
def sFail : SD := fun _ _ => .fail
def sWhile : Nat → XB → SD → SD
  | 0, _, _ => fun _ _ => .fail
  | n + 1, t, F => fun ρ μ => (t ρ μ).st ρ fun b μ1 => if b then (match F ρ μ1 with
      | .nx ρ' μ' => sWhile n t F ρ' μ'
      | .ct ρ' μ' => sWhile n t F ρ' μ'
      | .bk ρ' μ' => .nx ρ' μ'
      | r => r) else .nx ρ μ1
def sApp (i : Nat) (f : XD) : SD := fun ρ μ => match ρ[i]? with
  | some (.ow (.lst ds)) => (f ρ μ).st ρ fun d μ' => if Nat.ble ds.length 1000000 then .nx (ρ.set i (.ow (.lst (ds ++ [d])))) μ' else .fail
  | _ => .fail
section
variable {X : Cx} {cl : Nat → Addr} {W : WX} {fr : Bool} {e : Expr} {f : XD} {t : XB} {F G : SD} {s0 : Stmt} {rest body orelse : List Stmt} {pos : Pos}
theorem SOut.st {K : PySem.W.Frag} {α : Type} {r : Res α} {ρ : Env} {k : α → Store → SRes} {c : Ct} {E : Ends} (h : SOut K cl W fr c E (r.st ρ k)) {os : List (Option Addr)} {σ : L2.St} {H : Hp} : Out r (fun a μ => SOut K cl W fr c E (k a μ)) (EOk K cl W c os ρ σ H) := by
  cases r with
  | ok a μ => exact h
  | exc x μ => exact fun v dx H' r' _ ex => h v dx os σ H' r' ex
  | fail => exact h
theorem hNil : PSs X [] (tS X.K cl W fr sNext) := pss_imp pss_nil fun E σ H => by
  rintro ⟨c, os, ρ, μ, r, h⟩
  exact h os σ H r
theorem seq_imp (E : Ends) (σ : L2.St) (H : Hp) (h : tS X.K cl W fr (sSeq F G) E σ H) : tSeq (tS X.K cl W fr F) (tS X.K cl W fr G) E σ H := by
  obtain ⟨c, os, ρ, μ, r, h⟩ := h
  refine ⟨c, os, ρ, μ, r, ?_⟩
  unfold sSeq at h
  cases e : F ρ μ with
  | nx ρ' μ' =>
    rw [e] at h
    intro os' σ' H' r'
    exact ⟨c, os', ρ', μ', r', h⟩
  | rt d μ' => rw [e] at h; exact h
  | bk ρ' μ' => rw [e] at h; exact h
  | ct ρ' μ' => rw [e] at h; exact h
  | exc x ρ' μ' => rw [e] at h; exact h
  | fail => rw [e] at h; exact h
theorem hCons (h1 : PS X s0 (tS X.K cl W fr F)) (h2 : PSs X rest (tS X.K cl W fr G)) : PSs X (s0 :: rest) (tS X.K cl W fr (sSeq F G)) := pss_imp (pss_cons h1 h2) seq_imp
theorem hOne (h1 : PS X s0 (tS X.K cl W fr F)) : PSs X [s0] (tS X.K cl W fr F) := pss_one h1
theorem hPass : PS X (.Pass pos) (tS X.K cl W fr sNext) := ps_imp ps_pass fun E σ H => by
  rintro ⟨c, os, ρ, μ, r, h⟩
  exact h os σ H r
theorem hBrk : PS X (.Break pos) (tS X.K cl W fr sBrk) := ps_imp ps_break fun E σ H => by
  rintro ⟨c, os, ρ, μ, r, h⟩
  exact h os σ H r
theorem hCnt : PS X (.Continue pos) (tS X.K cl W fr sCnt) := ps_imp ps_continue fun E σ H => by
  rintro ⟨c, os, ρ, μ, r, h⟩
  exact h os σ H r
theorem hFail : PS X s0 (tS X.K cl W fr sFail) := ps_imp ps_never fun E σ H => by
  rintro ⟨c, os, ρ, μ, r, h⟩
  exact h.elim
theorem hFails : PSs X rest (tS X.K cl W fr sFail) := pss_imp pss_never fun E σ H => by
  rintro ⟨c, os, ρ, μ, r, h⟩
  exact h.elim
theorem hAsg {i : Nat} (h : PS X s0 (tAsg (tE X.K cl W f) (gName i))) : PS X s0 (tS X.K cl W fr (sAsg i f)) := ps_imp h fun E σ H => by
  rintro ⟨c, os, ρ, μ, r, h⟩
  refine ⟨c, os, ρ, μ, r, (SOut.st h).imp (fun d μ1 h1 => ?_) fun _ _ q => q⟩
  intro v1 H1 r1 e1 p1
  exact h1 _ _ H1 (r1.set p1)
theorem hAsgF {i : Nat} (h : PS X s0 (tAsg (tF X.K cl W f) (gName i))) : PS X s0 (tS X.K cl W fr (sAsgF i f)) := ps_imp h fun E σ H => by
  rintro ⟨c, os, ρ, μ, r, h⟩
  refine ⟨c, os, ρ, μ, r, (SOut.st h).imp (fun d μ1 h1 => ?_) fun _ _ q => q⟩
  intro v1 H1 f1 e1 _
  exact h1 _ _ H1 (f1.put i)
theorem hRet (h : PE X e (tE X.K cl W f)) : PS X (.Return (some e) pos) (tS X.K cl W false (sRet f)) := ps_imp (ps_ret h) fun E σ H => by
  rintro ⟨c, os, ρ, μ, r, h⟩
  refine ⟨c, os, ρ, μ, r, (SOut.st h).imp (fun d μ1 h1 => ?_) fun _ _ q => q⟩
  intro v1 H1 r1 e1 p1
  exact h1 v1 os ρ σ H1 r1 p1
theorem hRetF (h : PE X e (tF X.K cl W f)) : PS X (.Return (some e) pos) (tS X.K cl W true (sRet f)) := ps_imp (ps_ret h) fun E σ H => by
  rintro ⟨c, os, ρ, μ, r, h⟩
  refine ⟨c, os, ρ, μ, r, (SOut.st h).imp (fun d μ1 h1 => ?_) fun _ _ q => q⟩
  intro v1 H1 r1 e1 _
  exact h1 v1 os ρ σ H1 r1
theorem hRetN : PS X (.Return none pos) (tS X.K cl W false sRetN) := ps_imp ps_retN fun E σ H => by
  rintro ⟨c, os, ρ, μ, r, h⟩
  exact h .non os ρ σ H r .non
/-- the own container goes out -/
theorem Rl.release {K : PySem.W.Frag} {c : Ct} {os : List (Option Addr)} {ρ : Env} {μ : Store} {σ : L2.St} {H : Hp} {d : D} (r : Rl K c os ρ μ σ H) {i : Nat} (h : ρ[i]? = some (.ow d)) : ∃ a, σ[i]? = some (some (.ref a)) ∧ Fr K c (os.set i none) (ρ.set i .no) μ σ H a d := by
  obtain ⟨a, h1, h2, h3⟩ := r.getOw h
  have l1 : i < os.length := (List.getElem?_eq_some_iff.mp h2).1
  have hm : some a ∈ os := List.mem_of_getElem? h2
  obtain ⟨w1, w2, w3⟩ := r.own a hm
  have nin : some a ∉ os.set i none := fun q => by
    obtain ⟨j, hj⟩ := List.getElem?_of_mem q
    by_cases e : i = j
    · subst e
      rw [List.getElem?_set_self l1] at hj; cases hj
    · rw [List.getElem?_set_ne e] at hj
      exact e (r.inj i j a h2 hj)
  have ev : vw (c.av a) (os.set i none) H = vw c os H := by
    funext b
    unfold vw Ct.av
    by_cases hb : (c.A b ∨ b ∈ c.T ∨ some b ∈ os)
    · rw [if_pos hb, if_pos]
      rcases hb with z | z | z
      · exact .inl (.inl z)
      · exact .inr (.inl z)
      · by_cases eb : b = a
        · exact .inl (.inr eb)
        · refine .inr (.inr ?_)
          obtain ⟨j, hj⟩ := List.getElem?_of_mem z
          have nj : i ≠ j := fun e => by
            subst e
            rw [h2] at hj
            exact eb (Option.some.inj (Option.some.inj hj)).symm
          exact List.mem_of_getElem? (i := j) (by rw [List.getElem?_set_ne nj]; exact hj)
    · rw [if_neg hb, if_neg]
      rintro ((z | z) | z | z)
      · exact hb (.inl z)
      · exact hb (.inr (.inr (by rw [z]; exact hm)))
      · exact hb (.inr (.inl z))
      · exact hb (.inr (.inr (mem_set_none z)))
  refine ⟨a, h1, ⟨⟨by simp [r.lo], by simp [r.lr], fun j o s x g1 g2 g3 => ?_, fun j k b g1 g2 => ?_, fun b g => ?_, fun b g z => ?_, r.tn, r.sm, r.st, r.keep, fun b g => ?_⟩, ?_, w2, w1, nin, w3⟩⟩
  · rw [ev]
    by_cases hj : i = j
    · subst hj
      have l2 : i < ρ.length := by have := (List.getElem?_eq_some_iff.mp g2).1; simpa using this
      rw [List.getElem?_set_self l1] at g1
      rw [List.getElem?_set_self l2] at g2
      cases g1; cases g2
      trivial
    · rw [List.getElem?_set_ne hj] at g1 g2
      exact r.sl j o s x g1 g2 g3
  · have g : ∀ m, (os.set i none)[m]? = some (some b) → os[m]? = some (some b) := fun m hm => by
      by_cases e : i = m
      · subst e
        rw [List.getElem?_set_self l1] at hm; cases hm
      · rw [List.getElem?_set_ne e] at hm; exact hm
    exact r.inj j k b (g j g1) (g k g2)
  · have q := r.own b (mem_set_none g)
    refine ⟨q.1, fun z => z.elim q.2.1 fun y => nin (by rw [← y]; exact g), q.2.2⟩
  · exact z.elim (r.tA b g) fun y => w1 (by rw [← y]; exact g)
  · rcases g with g | g
    · exact r.dom b g
    · rw [g]; exact h3.thereN
  · rw [ev]; exact h3
theorem hRetV {i : Nat} {x : Str} {p : Pos} (h : PE X (.Name x p) (tVar i)) : PS X (.Return (some (.Name x p)) pos) (tS X.K cl W true (sRetV i)) := ps_imp (ps_ret h) fun E σ H => by
  rintro ⟨c, os, ρ, μ, r, h⟩
  unfold sRetV at h
  split at h
  · rename_i d e
    obtain ⟨a, h1, h2⟩ := r.release e
    exact ⟨_, h1, h a _ _ _ H h2⟩
  · exact h.elim
theorem hIf {c : Expr} (hc : PT X c (tT X.K cl W t)) (ha : PSs X body (tS X.K cl W fr F)) (hb : PSs X orelse (tS X.K cl W fr G)) : PS X (.If c body orelse pos) (tS X.K cl W fr (sIf t F G)) := ps_imp (ps_if hc ha hb) fun E σ H => by
  rintro ⟨c, os, ρ, μ, r, h⟩
  refine ⟨c, os, ρ, μ, r, (SOut.st h).imp (fun k μ1 h1 => ?_) fun _ _ q => q⟩
  intro H1 r1 e1
  cases k with
  | true =>
    rw [if_pos rfl] at h1 ⊢
    exact ⟨c, os, ρ, μ1, r1, h1⟩
  | false =>
    rw [if_neg Bool.false_ne_true] at h1 ⊢
    exact ⟨c, os, ρ, μ1, r1, h1⟩
theorem hExpr (he : PE X e (tE X.K cl W f)) (hs : swapsWith e none pos.line X.env = pure false := by rfl) : PS X (.Expr e pos) (tS X.K cl W fr (sExpr f)) := ps_imp (ps_expr he hs) fun E σ H => by
  rintro ⟨c, os, ρ, μ, r, h⟩
  refine ⟨c, os, ρ, μ, r, (SOut.st h).imp (fun d μ1 h1 => ?_) fun _ _ q => q⟩
  intro v1 H1 r1 e1 p1
  exact h1 _ _ H1 r1
theorem hFrz {i : Nat} (h : PS X s0 (tS X.K cl W fr F)) : PS X s0 (tS X.K cl W fr (sFrz i F)) := ps_imp h fun E σ H => by
  rintro ⟨c, os, ρ, μ, r, h⟩
  unfold sFrz at h
  split at h
  · rename_i d e
    exact ⟨c, _, _, μ, r.freeze e, h⟩
  · exact ⟨c, os, ρ, μ, r, h⟩
theorem hWhile (n : Nat) {c : Expr} (hp : PassesOwn (model X.prog X.w) X.A X.env X.xe) (hc : PT X c (tT X.K cl W t)) (hb : PSs X body (tS X.K cl W fr F)) : PS X (.While c body [] pos) (tS X.K cl W fr (sWhile n t F)) := ps_imp (ps_while hp hc hb) fun E σ H => by
  rintro ⟨c, os, ρ, μ, r, h⟩
  refine ⟨fun m σ H => ∃ os ρ μ, Rl X.K c os ρ μ σ H ∧ SOut X.K cl W fr c E (sWhile m t F ρ μ), ⟨n, os, ρ, μ, r, h⟩, ?_⟩
  rintro m σ H ⟨os, ρ, μ, r, h⟩
  cases m with
  | zero => exact h.elim
  | succ m =>
    refine ⟨c, os, ρ, μ, r, (SOut.st (show SOut X.K cl W fr c E ((t ρ μ).st ρ _) from h)).imp (fun k μ1 h1 => ?_) fun _ _ q => q⟩
    intro H1 r1 e1
    cases k with
    | false =>
      rw [if_neg Bool.false_ne_true] at h1 ⊢
      exact h1 os σ H1 r1
    | true =>
      rw [if_pos rfl] at h1 ⊢
      refine ⟨fun σ' H' => ∃ os' ρ' μ', Rl X.K c os' ρ' μ' σ' H' ∧ SOut X.K cl W fr c E (sWhile m t F ρ' μ'), fun σ' H' q => ⟨m, Nat.lt_succ_self m, q⟩, ?_⟩
      refine ⟨c, os, ρ, μ1, r1, ?_⟩
      cases e : F ρ μ1 with
      | nx ρ' μ' => rw [e] at h1; exact fun os' σ' H' r' => ⟨os', ρ', μ', r', h1⟩
      | ct ρ' μ' => rw [e] at h1; exact fun os' σ' H' r' => ⟨os', ρ', μ', r', h1⟩
      | bk ρ' μ' => rw [e] at h1; exact h1
      | rt d μ' => rw [e] at h1; exact h1
      | exc x ρ' μ' => rw [e] at h1; exact h1
      | fail => rw [e] at h1; exact h1
/-- x.append(e), x an own list -/
theorem hApp {i : Nat} (h : PS X s0 (tDrop (tBM X.K "list" rAppend (tVar i) (tCons (tE X.K cl W f) tNil)))) : PS X s0 (tS X.K cl W fr (sApp i f)) := ps_imp h fun E σ H => by
  rintro ⟨c, os, ρ, μ, r, h⟩
  unfold sApp at h
  split at h
  · rename_i ds e0
    obtain ⟨a, h1, h2, h3⟩ := r.getOw e0
    have l1 : ∃ xs, H a = some (.lst xs) := by
      cases h3 with | lst q _ => exact ⟨_, q⟩
    obtain ⟨xs, hxs⟩ := l1
    refine ⟨.ref a, h1, .inl ⟨rfl, xs, .inl (.inl hxs)⟩, ?_⟩
    refine ⟨c, os, ρ, μ, r, (SOut.st h).imp (fun d μ1 h1' => ?_) fun _ _ q => q⟩
    intro v1 H1 r1 e1 p1
    by_cases hl : Nat.ble ds.length 1000000 = true
    · rw [if_pos hl] at h1'
      obtain ⟨a', g1, g2, g3⟩ := r1.getOw e0
      have ea : a' = a := by
        rw [h1] at g1
        have := Option.some.inj (Option.some.inj g1)
        cases this; rfl
      subst ea
      cases g3 with
      | lst q k =>
        rename_i ys
        refine ⟨a', ys, v1, rfl, rfl, q, by rw [k.length]; exact Nat.lt_of_le_of_lt (Nat.le_of_ble_eq_true hl) (by rw [sizeLine_eq]; decide), ?_⟩
        exact h1' os σ _ (r1.change g1 g2 (.lst upd_same (k.append (.cons p1 .nil))))
    · rw [if_neg hl] at h1'
      exact h1'.elim
  · exact h.elim
end
end DC
set_option Elab.async false
set_option linter.all false
set_option maxRecDepth 100000
set_option maxHeartbeats 2000000
/-! DC: targets, loops, comprehensions. -/
namespace DC
open PySem PySem.Spec PyProof.Rows L2
/-! ### slots forgotten -/
theorem wipe_get (σ : L2.St) (j : Nat) : ∀ vs : List Nat, (wipe σ vs)[j]? = if j ∈ vs then (σ[j]?).map (fun _ => (none : Option V)) else σ[j]?
  | [] => by simp [wipe]
  | v :: vs => by
    unfold wipe
    by_cases e : v = j
    · subst e
      rw [List.getElem?_set, if_pos rfl, wipe_length]
      have hm : v ∈ v :: vs := by simp
      by_cases hl : v < σ.length
      · rw [if_pos hl, if_pos hm, List.getElem?_eq_getElem hl]; rfl
      · rw [if_neg hl, if_pos hm, List.getElem?_eq_none (by omega)]; rfl
    · rw [List.getElem?_set_ne e, wipe_get σ j vs]
      by_cases h : j ∈ vs
      · rw [if_pos h, if_pos (by simp [h])]
      · rw [if_neg h, if_neg (by simp [h, Ne.symm e])]
theorem wipe_set {σ : L2.St} {i : Nat} {x : Option V} {vs : List Nat} (h : i ∈ vs) : wipe (σ.set i x) vs = wipe σ vs := by
  apply List.ext_getElem?
  intro j
  rw [wipe_get, wipe_get]
  by_cases e : j ∈ vs
  · rw [if_pos e, if_pos e, List.getElem?_set]
    by_cases q : i = j
    · subst q
      rw [if_pos rfl]
      by_cases hl : i < σ.length
      · rw [if_pos hl, List.getElem?_eq_getElem hl]; rfl
      · rw [if_neg hl, List.getElem?_eq_none (by omega)]
    · rw [if_neg q]
  · have q : i ≠ j := fun z => by subst z; exact e h
    rw [if_neg e, if_neg e, List.getElem?_set_ne q]
theorem wipe_idem (σ : L2.St) (vs : List Nat) : wipe (wipe σ vs) vs = wipe σ vs := by
  apply List.ext_getElem?
  intro j
  rw [wipe_get, wipe_get]
  by_cases e : j ∈ vs
  · rw [if_pos e, if_pos e]
    cases σ[j]? <;> rfl
  · rw [if_neg e, if_neg e]
/-! ### targets -/
abbrev Tg := D → Env → Option Env
abbrev Tgs := List D → Env → Option Env
def gN (i : Nat) : Tg := fun d ρ => some (ρ.set i (.fz d))
def gE : Tgs := fun ds ρ => match ds with
  | [] => some ρ
  | _ => none
def gC (g : Tg) (gs : Tgs) : Tgs := fun ds ρ => match ds with
  | d :: r => (g d ρ).bind fun ρ' => gs r ρ'
  | [] => none
def gT (gs : Tgs) : Tg := fun d ρ => match d with
  | .tup ds => gs ds ρ
  | _ => none
structure Same' (is : List Nat) (os os' : List (Option Addr)) (σ σ' : L2.St) : Prop where
  wp : ∀ vs, (∀ i ∈ is, i ∈ vs) → wipe σ' vs = wipe σ vs
  oo : (∀ i ∈ is, ∀ a, os[i]? ≠ some (some a)) → os' = os
  le : ∀ a, some a ∈ os' → some a ∈ os
def tG (K : PySem.W.Frag) (is : List Nat) (g : Tg) : TG := fun v σ H Q => ∃ c os ρ μ d ρ', Rl K c os ρ μ σ H ∧ Rp K c.T (vw c os H) v d ∧ g d ρ = some ρ' ∧ ∀ os' σ', Rl K c os' ρ' μ σ' H → Same' is os os' σ σ' → Q σ' H
def tGs (K : PySem.W.Frag) (is : List Nat) (g : Tgs) : TGs := fun vs σ H Q => ∃ c os ρ μ ds ρ', Rl K c os ρ μ σ H ∧ RpA K c.T (vw c os H) vs ds ∧ g ds ρ = some ρ' ∧ ∀ os' σ', Rl K c os' ρ' μ σ' H → Same' is os os' σ σ' → Q σ' H
theorem Same'.refl (os : List (Option Addr)) (σ : L2.St) : Same' [] os os σ σ := ⟨fun _ _ => rfl, fun _ => rfl, fun _ h => h⟩
theorem Same'.trans {is js : List Nat} {os os1 os2 : List (Option Addr)} {σ σ1 σ2 : L2.St} (a : Same' is os os1 σ σ1) (b : Same' js os1 os2 σ1 σ2) : Same' (is ++ js) os os2 σ σ2 where
  wp := fun vs h => by rw [b.wp vs fun i hi => h i (List.mem_append_right _ hi), a.wp vs fun i hi => h i (List.mem_append_left _ hi)]
  oo := fun h => by
    have e1 := a.oo fun i hi => h i (List.mem_append_left _ hi)
    have e2 := b.oo fun i hi => by rw [e1]; exact h i (List.mem_append_right _ hi)
    rw [e2, e1]
  le := fun x h => a.le x (b.le x h)
theorem Same'.set {i : Nat} {os : List (Option Addr)} {σ : L2.St} {v : V} (hl : os.length = σ.length) : Same' [i] os (os.set i none) σ (σ.set i (some v)) where
  wp := fun vs h => wipe_set (h i (by simp))
  oo := fun h => by
    apply List.ext_getElem?
    intro j
    by_cases e : i = j
    · subst e
      rw [List.getElem?_set, if_pos rfl]
      by_cases hl : i < os.length
      · rw [if_pos hl, List.getElem?_eq_getElem hl]
        cases e2 : os[i] with
        | none => rfl
        | some a => exact absurd (by rw [List.getElem?_eq_getElem hl, e2]) (h i (by simp) a)
      · rw [if_neg hl, List.getElem?_eq_none (by omega)]
    · rw [List.getElem?_set_ne e]
  le := fun a h => mem_set_none h
theorem pg_imp {X : Cx} {e : Expr} {t t' : TG} (h : PG X e t) (i : ∀ v σ H Q, t' v σ H Q → t v σ H Q) : PG X e t' := ⟨fun pins s σ H v u Q I r q => h.run pins s σ H v u Q I r (i v σ H Q q)⟩
theorem pgs_imp {X : Cx} {e : List Expr} {t t' : TGs} (h : PGs X e t) (i : ∀ v σ H Q, t' v σ H Q → t v σ H Q) : PGs X e t' := ⟨fun pins s σ H v u Q I r q => h.run pins s σ H v u Q I r (i v σ H Q q)⟩
section
variable {X : Cx} {e : Expr} {es : List Expr} {is js : List Nat} {g : Tg} {gs : Tgs} {pos : Pos}
theorem kN {i : Nat} (h : PG X e (gName i)) : PG X e (tG X.K [i] (gN i)) := pg_imp h fun v σ H Q => by
  rintro ⟨c, os, ρ, μ, d, ρ', r, p, e, h⟩
  cases e
  exact h _ _ (r.set p) (.set r.lo)
theorem kE : PGs X [] (tGs X.K [] gE) := pgs_imp pgs_nil fun v σ H Q => by
  rintro ⟨c, os, ρ, μ, ds, ρ', r, p, e, h⟩
  cases ds with
  | nil => cases p; cases e; exact ⟨rfl, h _ _ r (.refl _ _)⟩
  | cons d ds => cases e
theorem kC (h1 : PG X e (tG X.K is g)) (h2 : PGs X es (tGs X.K js gs)) (h : PGs X (e :: es) (gCons (tG X.K is g) (tGs X.K js gs))) : PGs X (e :: es) (tGs X.K (is ++ js) (gC g gs)) := pgs_imp h fun v σ H Q => by
  rintro ⟨c, os, ρ, μ, ds, ρ', r, p, e, h⟩
  cases ds with
  | nil => cases e
  | cons d ds =>
    cases p with
    | cons q k =>
      obtain ⟨ρ1, e1, e2⟩ := Option.bind_eq_some_iff.mp (show (g d ρ).bind (fun ρ' => gs ds ρ') = some ρ' from e)
      refine ⟨_, _, rfl, c, os, ρ, μ, d, ρ1, r, q, e1, fun os1 σ1 r1 s1 => ?_⟩
      exact ⟨c, os1, ρ1, μ, ds, ρ', r1, k.mono (vw_os s1.le), e2, fun os2 σ2 r2 s2 => h os2 σ2 r2 (s1.trans s2)⟩
theorem gs_len : ∀ {n : Nat}, (∀ ds ρ ρ', gs ds ρ = some ρ' → ds.length = n) → ∀ {g : Tg}, ∀ ds ρ ρ', gC g gs ds ρ = some ρ' → ds.length = n + 1 := fun h g ds ρ ρ' e => by
  cases ds with
  | nil => cases e
  | cons d ds =>
    obtain ⟨ρ1, e1, e2⟩ := Option.bind_eq_some_iff.mp (show (g d ρ).bind (fun ρ' => gs ds ρ') = some ρ' from e)
    rw [List.length_cons, h _ _ _ e2]
theorem gE_len : ∀ ds ρ ρ', gE ds ρ = some ρ' → ds.length = 0 := fun ds ρ ρ' e => by
  cases ds with
  | nil => rfl
  | cons d ds => cases e
theorem kT {n : Nat} (h : PG X e (gTup X.K n (tGs X.K is gs))) (hn : ∀ ds ρ ρ', gs ds ρ = some ρ' → ds.length = n) : PG X e (tG X.K is (gT gs)) := pg_imp h fun v σ H Q => by
  rintro ⟨c, os, ρ, μ, d, ρ', r, p, e, h⟩
  unfold gT at e
  split at e
  · rename_i ds
    obtain ⟨a, vs, z, g1, g2⟩ := p.inv_tup
    subst z
    exact ⟨a, vs, rfl, vw_le.sqT g1, by rw [g2.length]; exact hn _ _ _ e, c, os, ρ, μ, ds, ρ', r, g2, e, h⟩
  · cases e
end
/-! ### what is walked -/
def Ct.hold (c : Ct) (G : Hp) : Ct := { c with He := fun b => (G b).or (c.He b) }
def YD (K : PySem.W.Frag) (T : List Addr) (G : Hp) (ds : List D) : Nat → Hp → V → Hp → Prop := fun i H x H' => ∃ d, ds[i]? = some d ∧
  ((H' = H ∧ Rp K T G x d) ∨ ∃ p u v du dv, x = .ref p ∧ H p = none ∧ H' = upd H p (.tup [u, v]) ∧ d = .tup [du, dv] ∧ Rp K T G u du ∧ Rp K T G v dv)
def tI (K : PySem.W.Frag) (cl : Nat → Addr) (W : WX) (f : XL) : TI := fun σ H R => ∃ c os ρ μ, Rl K c os ρ μ σ H ∧ Out (f ρ μ) (fun ds μ' => ∀ J H1, Rl K c os ρ μ' σ H1 → Kp c H H1 → (∃ Gp, (∀ H2, Exts (vw c os H1) H2 → Gp H2) ∧ Walk J ds.length Gp (YD K c.T (vw c os H1) ds)) → R J H1) (EOk K cl W c os ρ σ H)
theorem pi_imp {X : Cx} {tg e : Expr} {t t' : TI} (h : PI X tg e t) (i : ∀ σ H R, t' σ H R → t σ H R) : PI X tg e t' := ⟨fun pins s σ H R I q => h.run pins s σ H R I (i σ H R q)⟩
theorem pi_or {X : Cx} {tg e : Expr} {t t' : TI} (h : PI X tg e t) (h' : PI X tg e t') : PI X tg e (fun σ H R => t σ H R ∨ t' σ H R) := ⟨fun pins s σ H R I q => q.elim (h.run pins s σ H R I) (h'.run pins s σ H R I)⟩
section
variable {K : PySem.W.Frag} {c : Ct} {os : List (Option Addr)} {ρ : Env} {μ : Store} {σ : L2.St} {H H1 : Hp} {G : Hp}
theorem Rl.hold (r : Rl K c os ρ μ σ H) : Rl K (c.hold (vw c os H)) os ρ μ σ H where
  lo := r.lo
  lr := r.lr
  sl := r.sl
  inj := r.inj
  own := fun a h => by
    obtain ⟨h1, h2, h3⟩ := r.own a h
    refine ⟨h1, h2, ?_⟩
    show (vw c os H a).or (c.He a) = none
    have z : vw c os H a = none := by
      cases e : vw c os H a with
      | none => rfl
      | some o => exact absurd h (vw_some.mp e).2.2.2
    rw [z, h3]; rfl
  tA := r.tA
  tn := r.tn
  sm := r.sm
  st := r.st
  keep := fun b o h n => by
    have h' : (vw c os H b).or (c.He b) = some o := h
    cases e : vw c os H b with
    | none => rw [e] at h'; exact r.keep b o h' n
    | some u => rw [e] at h'; cases h'; exact (vw_some.mp e).1
  dom := r.dom
/-- what is held stood at H1 -/
theorem Rl.unhold (r : Rl K (c.hold G) os ρ μ σ H) (hk : ∀ b o, c.He b = some o → b ∉ c.T → (c.hold G).He b = some o) : Rl K c os ρ μ σ H where
  lo := r.lo
  lr := r.lr
  sl := r.sl
  inj := r.inj
  own := fun a h => by
    obtain ⟨h1, h2, h3⟩ := r.own a h
    refine ⟨h1, h2, ?_⟩
    have h3' : (G a).or (c.He a) = none := h3
    cases e : G a with
    | none => rw [e] at h3'; exact h3'
    | some u => rw [e] at h3'; cases h3'
  tA := r.tA
  tn := r.tn
  sm := r.sm
  st := r.st
  keep := fun b o h n => r.keep b o (hk b o h n) n
  dom := r.dom
theorem Rl.holds (r : Rl K c os ρ μ σ H) : ∀ b o, c.He b = some o → b ∉ c.T → (c.hold (vw c os H)).He b = some o := fun b o h n => by
  show (vw c os H b).or (c.He b) = some o
  cases e : vw c os H b with
  | none => exact h
  | some u =>
    have := r.keep b o h n
    rw [(vw_some.mp e).1] at this
    exact this
theorem Fr.unhold {a : Addr} {d : D} (f : Fr K (c.hold G) os ρ μ σ H a d) (hk : ∀ b o, c.He b = some o → b ∉ c.T → (c.hold G).He b = some o) : Fr K c os ρ μ σ H a d where
  rl := Rl.unhold (c := c.av a) (G := G) f.rl hk
  ow := f.ow
  nA := f.nA
  nT := f.nT
  no := f.no
  he := by
    have h3' : (G a).or (c.He a) = none := f.he
    cases e : G a with
    | none => rw [e] at h3'; exact h3'
    | some u => rw [e] at h3'; cases h3'
theorem SOut.hold {cl : Nat → Addr} {W : WX} {fr : Bool} {E : Ends} {r : SRes} (h : SOut K cl W fr c E r) (hk : ∀ b o, c.He b = some o → b ∉ c.T → (c.hold G).He b = some o) : SOut K cl W fr (c.hold G) E r := by
  cases r with
  | nx ρ μ => exact fun os σ H r => h os σ H (r.unhold hk)
  | bk ρ μ => exact fun os σ H r => h os σ H (r.unhold hk)
  | ct ρ μ => exact fun os σ H r => h os σ H (r.unhold hk)
  | rt d μ =>
    cases fr with
    | false => exact fun v os ρ σ H r p => h v os ρ σ H (r.unhold hk) p
    | true => exact fun a os ρ σ H f => h a os ρ σ H (f.unhold hk)
  | exc x ρ μ => exact fun e dx os σ H r ex => h e dx os σ H (r.unhold hk) ex
  | fail => exact h
/-- what is held is seen -/
theorem Rl.sees (r : Rl K (c.hold G) os ρ μ σ H) (hG : ∀ b o, G b = some o → b ∉ c.T ∧ ¬ c.A b) : Exts G (vw c os H) :=
  Rl.seesOld (c := c.hold G) r (fun b o h => by
    show (G b).or (c.He b) = some o
    rw [h]; rfl) hG
end
/-! ### for -/
def sForL (g : Tg) (F : SD) : List D → SD
  | [] => sNext
  | d :: ds => fun ρ μ => match g d ρ with
    | none => .fail
    | some ρ1 => match F ρ1 μ with
      | .nx ρ' μ' => sForL g F ds ρ' μ'
      | .ct ρ' μ' => sForL g F ds ρ' μ'
      | .bk ρ' μ' => .nx ρ' μ'
      | r => r
def sFor (f : XL) (g : Tg) (F : SD) : SD := fun ρ μ => (f ρ μ).st ρ fun ds μ' => sForL g F ds ρ μ'
theorem YD.rp {K : PySem.W.Frag} {c : Ct} {os os0 : List (Option Addr)} {ρ : Env} {μ : Store} {σ : L2.St} {H0 H H' : Hp} {ds : List D} {i : Nat} {x : V} (y : YD K c.T (vw c os0 H0) ds i H x H') (r : Rl K (c.hold (vw c os0 H0)) os ρ μ σ H) :
    ∃ d, ds[i]? = some d ∧ Rl K (c.hold (vw c os0 H0)) os ρ μ σ H' ∧ Rp K c.T (vw c os H') x d ∧ Kp c H H' := by
  have hG : ∀ b o, vw c os0 H0 b = some o → b ∉ c.T ∧ ¬ c.A b := fun b o h => ⟨(vw_some.mp h).2.2.1, (vw_some.mp h).2.1⟩
  obtain ⟨d, e, y⟩ := y
  have s := r.sees hG
  rcases y with ⟨rfl, p⟩ | ⟨p, u, v, du, dv, rfl, n, rfl, rfl, pu, pv⟩
  · exact ⟨d, e, r, p.mono s, Kp.refl _ _⟩
  · have q := r.new (o := .tup [u, v]) n
    refine ⟨_, e, q, .tup (.inl (.inl (Rl.seen (c := c.hold (vw c os0 H0)) r n))) (.cons ?_ (.cons ?_ .nil)), Kp.new n⟩
    · exact (pu.mono s).mono (vw_mono (Exts.new n))
    · exact (pv.mono s).mono (vw_mono (Exts.new n))
section
variable {X : Cx} {cl : Nat → Addr} {W : WX} {fr : Bool} {f : XL} {g : Tg} {F : SD} {s0 : Stmt} {is : List Nat}
theorem hFor (h : PS X s0 (tFor (tI X.K cl W f) (tG X.K is g) (tS X.K cl W fr F))) : PS X s0 (tS X.K cl W fr (sFor f g F)) := ps_imp h fun E σ H => by
  rintro ⟨c, os, ρ, μ, r, h⟩
  refine ⟨c, os, ρ, μ, r, (SOut.st h).imp (fun ds μ1 h1 => ?_) fun _ _ q => q⟩
  intro J H1 r1 e1 ⟨Gp, hGp, w⟩
  have hk := r1.holds
  have r1h := r1.hold
  have hG : ∀ b o, vw c os H1 b = some o → b ∉ c.T ∧ ¬ c.A b := fun b o h => ⟨(vw_some.mp h).2.2.1, (vw_some.mp h).2.1⟩
  refine for_it w (fun i σ H => ∃ os' ρ μ, Rl X.K (c.hold (vw c os H1)) os' ρ μ σ H ∧ SOut X.K cl W fr (c.hold (vw c os H1)) E (sForL g F (ds.drop i) ρ μ)) ⟨os, ρ, μ1, r1h, SOut.hold h1 hk⟩ ?_ ?_ ?_
  · rintro i σ H _ ⟨os', ρ, μ, r, _⟩
    exact hGp _ ((r.sees hG).trans vw_le)
  · rintro i x σ H H' hi ⟨os', ρ, μ, r, h⟩ y
    obtain ⟨d, e, r', p, k⟩ := y.rp r
    have hd : ds.drop i = d :: ds.drop (i + 1) := by
      obtain ⟨hl, e'⟩ := List.getElem?_eq_some_iff.mp e
      rw [← e']
      exact List.drop_eq_getElem_cons hl
    rw [hd] at h
    unfold sForL at h
    cases eg : g d ρ with
    | none => rw [eg] at h; exact h.elim
    | some ρ1 =>
      rw [eg] at h
      refine ⟨c.hold (vw c os H1), os', ρ, μ, d, ρ1, r', p, eg, fun os2 σ2 r2 s2 => ?_⟩
      refine ⟨c.hold (vw c os H1), os2, ρ1, μ, r2, ?_⟩
      have h' : SOut X.K cl W fr (c.hold (vw c os H1)) E (match F ρ1 μ with
        | .nx ρ' μ' => sForL g F (ds.drop (i + 1)) ρ' μ'
        | .ct ρ' μ' => sForL g F (ds.drop (i + 1)) ρ' μ'
        | .bk ρ' μ' => .nx ρ' μ'
        | r => r) := h
      cases eF : F ρ1 μ with
      | nx ρ' μ' => rw [eF] at h'; exact fun os' σ' H' r' => ⟨os', ρ', μ', r', h'⟩
      | ct ρ' μ' => rw [eF] at h'; exact fun os' σ' H' r' => ⟨os', ρ', μ', r', h'⟩
      | bk ρ' μ' => rw [eF] at h'; exact h'
      | rt d μ' => rw [eF] at h'; exact h'
      | exc x ρ' μ' => rw [eF] at h'; exact h'
      | fail => rw [eF] at h'; exact h'
  · rintro σ H ⟨os', ρ, μ, r, h⟩
    rw [List.drop_length] at h
    exact h os' σ H r
end
end DC
set_option Elab.async false
set_option linter.all false
set_option maxRecDepth 100000
set_option maxHeartbeats 2000000
/-! DC: comprehensions, several values at once, sources of walks, cells, defs. -/
namespace DC
open PySem PySem.Spec PyProof.Rows L2
section
variable {K : PySem.W.Frag} {c : Ct} {os os2 : List (Option Addr)} {ρ ρ2 : Env} {μ μ' : Store} {σ σ2 : L2.St} {H H' : Hp} {a : Addr} {o : HO}
theorem Rl.keepX (r : Rl K c os ρ μ σ H) (q : Rl K c os2 ρ2 μ' σ2 H') (k : Kp c H H') : Rl K c os ρ μ' σ H' where
  lo := r.lo
  lr := r.lr
  sl := fun j o s x h1 h2 h3 => by
    have z := r.sl j o s x h1 h2 h3
    have hm : ∀ b, o = some b → b ∉ c.T := fun b eb => (r.own b (by rw [← eb]; exact List.mem_of_getElem? h1)).1
    unfold SlAt at z ⊢
    split at z
    · trivial
    · exact z.mono k.vw
    · exact ⟨z.1, z.2.mono k.vw (fun o h => k _ _ h (hm _ rfl))⟩
    · exact z.elim
  inj := r.inj
  own := r.own
  tA := r.tA
  tn := r.tn
  sm := q.sm
  st := q.st
  keep := fun b o h1 h2 => k b o (r.keep b o h1 h2) h2
  dom := fun b h => by
    obtain ⟨o, z, nu⟩ := r.dom b h
    exact ⟨o, k b o z fun y => r.tA b y h, nu⟩
theorem vw_updA (ha : c.A a) : vw c os (upd H a o) = vw c os H := by
  funext b
  unfold vw
  by_cases hb : (c.A b ∨ b ∈ c.T ∨ some b ∈ os)
  · rw [if_pos hb, if_pos hb]
  · rw [if_neg hb, if_neg hb, upd_ne]
    rintro rfl
    exact hb (.inl ha)
theorem Rl.updA (r : Rl K c os ρ μ σ H) (ha : c.A a) (he : c.He a = none) (nt : NoT o := by intro _ q; cases q) : Rl K c os ρ μ σ (upd H a o) where
  lo := r.lo
  lr := r.lr
  sl := fun j u s x h1 h2 h3 => by
    have z := r.sl j u s x h1 h2 h3
    have hm : ∀ b, u = some b → b ≠ a := fun b eb q => (r.own b (by rw [← eb]; exact List.mem_of_getElem? h1)).2.1 (by rw [q]; exact ha)
    rw [vw_updA ha]
    unfold SlAt at z ⊢
    split at z
    · trivial
    · exact z
    · exact ⟨z.1, z.2.mono (Exts.refl _) (fun w h => by rw [upd_ne (hm _ rfl)]; exact h)⟩
    · exact z.elim
  inj := r.inj
  own := r.own
  tA := r.tA
  tn := r.tn
  sm := r.sm
  st := fun n b ds h1 h2 => by
    have nb : b ≠ a := fun q => r.tA b (List.mem_of_getElem? h1) (by rw [q]; exact ha)
    rw [upd_ne nb]
    exact r.st n b ds h1 h2
  keep := fun b u h1 h2 => by
    have nb : b ≠ a := fun q => by subst q; rw [he] at h1; cases h1
    rw [upd_ne nb]
    exact r.keep b u h1 h2
  dom := fun b h => by
    by_cases e : b = a
    · subst e; exact ⟨o, upd_same, nt⟩
    · obtain ⟨u, z, nu⟩ := r.dom b h
      exact ⟨u, by rw [upd_ne e]; exact z, nu⟩
/-- the slots at vs forgotten (none of them an own container) -/
def wipeE (ρ : Env) : List Nat → Env
  | [] => ρ
  | v :: vs => (wipeE ρ vs).set v .no
def vsOk (ρ : Env) (vs : List Nat) : Bool := vs.all fun v => match ρ[v]? with
  | some (.ow _) => false
  | _ => true
theorem Rl.noOwn (r : Rl K c os ρ μ σ H) {i : Nat} (h : ∀ d, ρ[i]? ≠ some (.ow d)) : ∀ a, os[i]? ≠ some (some a) := fun a h1 => by
  have hlt : i < os.length := (List.getElem?_eq_some_iff.mp h1).1
  have h2 : i < ρ.length := by rw [r.lr, ← r.lo]; exact hlt
  have h3 : i < σ.length := by rw [← r.lo]; exact hlt
  have q := r.sl i _ _ _ h1 (List.getElem?_eq_getElem h2) (List.getElem?_eq_getElem h3)
  cases e1 : ρ[i] with
  | no => rw [e1] at q; cases e2 : σ[i] <;> rw [e2] at q <;> simp [SlAt] at q
  | fz d => rw [e1] at q; cases e2 : σ[i] <;> rw [e2] at q <;> simp [SlAt] at q
  | ow d => exact h d (by rw [List.getElem?_eq_getElem h2, e1])
theorem vsOk_no {ρ : Env} {vs : List Nat} (h : vsOk ρ vs = true) {i : Nat} (hi : i ∈ vs) : ∀ d, ρ[i]? ≠ some (.ow d) := fun d e => by
  have := List.all_eq_true.mp h i hi
  rw [e] at this
  cases this
theorem set_none_eq {os : List (Option Addr)} {i : Nat} (h : ∀ a, os[i]? ≠ some (some a)) : os.set i none = os := by
  apply List.ext_getElem?
  intro j
  by_cases e : i = j
  · subst e
    rw [List.getElem?_set, if_pos rfl]
    by_cases hl : i < os.length
    · rw [if_pos hl, List.getElem?_eq_getElem hl]
      cases e2 : os[i] with
      | none => rfl
      | some a => exact absurd (by rw [List.getElem?_eq_getElem hl, e2]) (h a)
    · rw [if_neg hl, List.getElem?_eq_none (by omega)]
  · rw [List.getElem?_set_ne e]
theorem Rl.wipe (r : Rl K c os ρ μ σ H) : ∀ vs : List Nat, vsOk ρ vs = true → Rl K c os (wipeE ρ vs) μ (L2.wipe σ vs) H
  | [], _ => r
  | v :: vs, h => by
    unfold vsOk at h
    rw [List.all_cons, Bool.and_eq_true] at h
    have q := (Rl.wipe r vs h.2).drop (i := v) none
    have nv : ∀ a, os[v]? ≠ some (some a) := r.noOwn (vsOk_no (vs := [v]) (by unfold vsOk; rw [List.all_cons, h.1]; rfl) (by simp))
    rw [set_none_eq nv] at q
    exact q
end
/-! ### comprehensions -/
def bTrue : XB := fun _ μ => .ok true μ
def lcL (g : Tg) (t : XB) (e : XD) (ρw : Env) : List D → Store → Res (List D)
  | [], μ => .ok [] μ
  | d :: ds, μ => match g d ρw with
    | none => .fail
    | some ρ2 => match t ρ2 μ with
      | .ok true μ1 => (match e ρ2 μ1 with
        | .ok y μ2 => (match lcL g t e ρw ds μ2 with
          | .ok ys μ3 => .ok (y :: ys) μ3
          | _ => .fail)
        | _ => .fail)
      | .ok false μ1 => lcL g t e ρw ds μ1
      | _ => .fail
def xLc (f : XL) (g : Tg) (t : XB) (e : XD) (vs : List Nat) : XD := fun ρ μ => (f ρ μ).bind fun ds μ1 => if vsOk ρ vs && lenOk ds then (match lcL g t e (wipeE ρ vs) ds μ1 with
    | .ok ys μ2 => .ok (.lst ys) μ2
    | _ => .fail) else .fail
theorem YD.rp' {K : PySem.W.Frag} {c : Ct} {os : List (Option Addr)} {ρ : Env} {μ : Store} {σ : L2.St} {G H H' : Hp} {ds : List D} {i : Nat} {x : V} (hG : ∀ b o, G b = some o → b ∉ c.T ∧ ¬ c.A b) (y : YD K c.T G ds i H x H') (r : Rl K (c.hold G) os ρ μ σ H) :
    ∃ d, ds[i]? = some d ∧ Rl K (c.hold G) os ρ μ σ H' ∧ Rp K c.T (vw c os H') x d ∧ Kp c H H' := by
  obtain ⟨d, e, y⟩ := y
  have s := r.sees hG
  rcases y with ⟨rfl, p⟩ | ⟨p, u, v, du, dv, rfl, n, rfl, rfl, pu, pv⟩
  · exact ⟨d, e, r, p.mono s, Kp.refl _ _⟩
  · have q := r.new (o := .tup [u, v]) n
    refine ⟨_, e, q, .tup (.inl (.inl (Rl.seen (c := c.hold G) r n))) (.cons ?_ (.cons ?_ .nil)), Kp.new n⟩
    · exact (pu.mono s).mono (vw_mono (Exts.new n))
    · exact (pv.mono s).mono (vw_mono (Exts.new n))
abbrev W0 : WX := fun _ _ _ _ => False
theorem pts_imp {X : Cx} {e : List Expr} {t t' : TT} (h : PTs X e t) (i : ∀ σ H Q, t' σ H Q → t σ H Q) : PTs X e t' := ⟨fun pins s σ H Q I q => h.run pins s σ H Q I (i σ H Q q)⟩
section
variable {X : Cx} {cl : Nat → Addr} {W : WX} {f : XL} {g : Tg} {t : XB} {fe : XD} {is vs : List Nat} {e : Expr}
theorem bNilT : PTs X [] (tT X.K cl W bTrue) := pts_imp pts_nil fun σ H Q => by
  rintro ⟨c, os, ρ, μ, r, h⟩
  exact h H r (Kp.refl _ _)
theorem lc_imp (hv : ∀ i ∈ is, i ∈ vs) (σ : L2.St) (H : Hp) (Q : VK) (h : tF X.K cl W (xLc f g t fe vs) σ H Q) : tLc (tI X.K cl W f) (tG X.K is g) (tT X.K cl W0 t) (tE X.K cl W0 fe) vs σ H Q := by
  obtain ⟨c, os, ρ, μ, r, h⟩ := h
  refine ⟨c, os, ρ, μ, r, (Out.bind h).imp (fun ds μ1 h1 => ?_) fun _ _ q => q⟩
  intro J H1 r1 e1 ⟨Gp, hGp, w⟩
  by_cases hok : (vsOk ρ vs && lenOk ds) = true
  · rw [if_pos hok] at h1
    rw [Bool.and_eq_true] at hok
    obtain ⟨hvs, hlen⟩ := hok
    cases eR : lcL g t fe (wipeE ρ vs) ds μ1 with
    | fail => rw [eR] at h1; exact h1.elim
    | exc x m => rw [eR] at h1; exact h1.elim
    | ok ys μf =>
      rw [eR] at h1
      intro Dl nD
      have hG : ∀ b o, vw c os H1 b = some o → b ∉ c.T ∧ ¬ (c.av Dl).A b := fun b o h => by
        obtain ⟨g1, g2, g3, g4⟩ := vw_some.mp h
        exact ⟨g3, fun z => z.elim g2 fun y => ne_of_none g1 nD y⟩
      obtain ⟨f1, f2, f3, f4⟩ := r1.fresh nD
      -- the state at the start
      have r1h : Rl X.K ((c.av Dl).hold (vw c os H1)) os ρ μ1 σ (upd H1 Dl (.lst [])) := ((Rl.hold r1).av (c := c.hold (vw c os H1)) (o := .lst []) nD).1
      have heD : ((c.av Dl).hold (vw c os H1)).He Dl = none := by
        show (vw c os H1 Dl).or (c.He Dl) = none
        cases e : vw c os H1 Dl with
        | none => exact f4
        | some u => rw [(vw_some.mp e).1] at nD; cases nD
      refine lc_it w (fun i H => ∃ μi acc da rest, Rl X.K ((c.av Dl).hold (vw c os H1)) os ρ μi σ H ∧ Kp c H1 H ∧ H Dl = some (.lst acc) ∧ RpA X.K c.T (vw (c.av Dl) os H) acc da ∧ da.length ≤ i ∧ lcL g t fe (wipeE ρ vs) (ds.drop i) μi = .ok rest μf ∧ da ++ rest = ys)
        ⟨μ1, [], [], ys, r1h, Kp.new nD, upd_same, .nil, Nat.le_refl _, eR, rfl⟩ ?_ ?_ ?_
      · rintro i H _ ⟨μi, acc, da, rest, r, _⟩
        exact hGp _ ((Rl.sees (c := c.av Dl) r hG).trans vw_le)
      · rintro i x H H' hi ⟨μi, acc, da, rest, r, k, hD, pa, hl, eL, eq⟩ y
        obtain ⟨d, ed, r', p, k'⟩ := YD.rp' (c := c.av Dl) hG y r
        have hd : ds.drop i = d :: ds.drop (i + 1) := by
          obtain ⟨hl, e'⟩ := List.getElem?_eq_some_iff.mp ed
          rw [← e']
          exact List.drop_eq_getElem_cons hl
        have hsz : da.length < sizeLine := by
          have z : ds.length ≤ 1000000 := Nat.le_of_ble_eq_true hlen
          rw [sizeLine_eq]; omega
        rw [hd] at eL
        unfold lcL at eL
        cases eg : g d (wipeE ρ vs) with
        | none => rw [eg] at eL; cases eL
        | some ρ2 =>
          rw [eg] at eL
          refine ⟨_, os, wipeE ρ vs, μi, d, ρ2, r'.wipe vs hvs, p, eg, fun os2 σ2 r2 s2 => ⟨by rw [s2.wp vs hv, wipe_idem], ?_⟩⟩
          have eos : os2 = os := s2.oo fun i hi => r.noOwn (vsOk_no hvs (hv i hi))
          subst eos
          refine ⟨_, os2, ρ2, μi, r2, ?_⟩
          have eL' : (match t ρ2 μi with
            | .ok true μ1 => (match fe ρ2 μ1 with
              | .ok y μ2 => (match lcL g t fe (wipeE ρ vs) (ds.drop (i + 1)) μ2 with
                | .ok ys μ3 => .ok (y :: ys) μ3
                | _ => .fail)
              | _ => .fail)
            | .ok false μ1 => lcL g t fe (wipeE ρ vs) (ds.drop (i + 1)) μ1
            | _ => .fail) = Res.ok rest μf := eL
          cases et : t ρ2 μi with
          | fail => rw [et] at eL'; cases eL'
          | exc x m => rw [et] at eL'; cases eL'
          | ok b μ2 =>
            rw [et] at eL'
            intro H3 r3 k3
            have kk : Kp c H H3 := k'.trans k3
            have r3' := r.keepX r3 (H' := H3) kk
            have hD3 : H3 Dl = some (.lst acc) := kk _ _ hD f2
            have pa3 : RpA X.K c.T (vw (c.av Dl) os2 H3) acc da := pa.mono (Kp.vw (c := c.av Dl) kk)
            cases b with
            | false =>
              rw [if_neg Bool.false_ne_true]
              exact ⟨μ2, acc, da, rest, r3', k.trans kk, hD3, pa3, by omega, eL', eq⟩
            | true =>
              rw [if_pos rfl]
              refine ⟨_, os2, ρ2, μ2, r3, ?_⟩
              have eL2 : (match fe ρ2 μ2 with
                | .ok y μ2 => (match lcL g t fe (wipeE ρ vs) (ds.drop (i + 1)) μ2 with
                  | .ok ys μ3 => .ok (y :: ys) μ3
                  | _ => .fail)
                | _ => .fail) = Res.ok rest μf := eL'
              cases ee : fe ρ2 μ2 with
              | fail => rw [ee] at eL2; cases eL2
              | exc x m => rw [ee] at eL2; cases eL2
              | ok dy μ3 =>
                rw [ee] at eL2
                intro vy H4 r4 k4 p4
                have eL3 : (match lcL g t fe (wipeE ρ vs) (ds.drop (i + 1)) μ3 with
                  | .ok ys μ3 => .ok (dy :: ys) μ3
                  | _ => .fail) = Res.ok rest μf := eL2
                cases er : lcL g t fe (wipeE ρ vs) (ds.drop (i + 1)) μ3 with
                | fail => rw [er] at eL3; cases eL3
                | exc x m => rw [er] at eL3; cases eL3
                | ok zs μ4 =>
                  rw [er] at eL3
                  cases eL3
                  have r4' := r3'.keepX r4 (H' := H4) k4
                  have hD4 : H4 Dl = some (.lst acc) := k4 _ _ hD3 f2
                  have hA : ((c.av Dl).hold (vw c os2 H1)).A Dl := .inr rfl
                  refine ⟨acc, hD4, by rw [pa.length]; exact hsz, μ3, acc ++ [vy], da ++ [dy], zs, r4'.updA hA heD, ?_, upd_same, ?_, ?_, er, ?_⟩
                  · exact fun b o h n => by
                      rw [upd_ne (ne_of_none h nD)]
                      exact k4 b o (kk b o (k b o h n) n) n
                  · rw [vw_updA (c := c.av Dl) (.inr rfl)]
                    exact (pa3.mono (Kp.vw (c := c.av Dl) k4)).append (.cons p4 .nil)
                  · rw [List.length_append]; simp; omega
                  · rw [List.append_assoc]; exact eq
      · rintro H ⟨μi, acc, da, rest, r, k, hD, pa, hl, eL, eq⟩
        rw [List.drop_length] at eL
        cases eL
        rw [List.append_nil] at eq
        subst eq
        have hk : ∀ b o, (c.av Dl).He b = some o → b ∉ (c.av Dl).T → ((c.av Dl).hold (vw c os H1)).He b = some o := r1.holds
        exact h1 Dl H ⟨Rl.unhold (c := c.av Dl) r hk, .lst hD pa, f1, f2, f3, f4⟩ (e1.trans k) (e1.nn nD f2)
  · rw [if_neg hok] at h1
    exact h1.elim
theorem dLc (h : PE X e (tLc (tI X.K cl W f) (tG X.K is g) (tT X.K cl W0 t) (tE X.K cl W0 fe) vs)) (hv : ∀ i ∈ is, i ∈ vs := by decide) : PE X e (tF X.K cl W (xLc f g t fe vs)) := pe_imp h (lc_imp hv)
end
end DC
set_option Elab.async false
set_option linter.all false
set_option maxRecDepth 100000
set_option maxHeartbeats 2000000
/-! DC: several values at once, sources of walks, cells, defs. -/
namespace DC
open PySem PySem.Spec PyProof.Rows L2
/-! ### several values at once, some of them new containers -/
def Ct.avs (c : Ct) (fa : List Addr) : Ct := { c with A := fun b => c.A b ∨ b ∈ fa }
theorem avs_nil (c : Ct) : c.avs [] = c := by
  cases c
  unfold Ct.avs
  congr 1
  funext b
  simp
theorem avs_cons (c : Ct) (a : Addr) (fa : List Addr) : (c.av a).avs fa = c.avs (a :: fa) := by
  cases c
  unfold Ct.avs Ct.av
  congr 1
  funext b
  simp [or_assoc]
/-- a flagged list of values: (true, d) is a new container -/
inductive MA (K : PySem.W.Frag) (T : List Addr) (Hv H : Hp) : List Addr → List V → List (Bool × D) → Prop
  | nil : MA K T Hv H [] [] []
  | val {fa : List Addr} {v : V} {vs : List V} {d : D} {ds : List (Bool × D)} : Rp K T Hv v d → MA K T Hv H fa vs ds → MA K T Hv H fa (v :: vs) ((false, d) :: ds)
  | new {fa : List Addr} {a : Addr} {vs : List V} {d : D} {ds : List (Bool × D)} : OwAt K T Hv H a d → MA K T Hv H fa vs ds → MA K T Hv H (a :: fa) (.ref a :: vs) ((true, d) :: ds)
theorem MA.mono {K : PySem.W.Frag} {T : List Addr} {Hv Hv' H H' : Hp} (e : Exts Hv Hv') : ∀ {fa : List Addr} {vs : List V} {ds : List (Bool × D)}, (∀ a ∈ fa, ∀ o, H a = some o → H' a = some o) → MA K T Hv H fa vs ds → MA K T Hv' H' fa vs ds
  | _, _, _, _, .nil => .nil
  | _, _, _, k, .val p r => .val (p.mono e) (MA.mono e k r)
  | _, _, _, k, .new p r => .new (p.mono e (k _ (by simp))) (MA.mono e (fun a h => k a (List.mem_cons_of_mem _ h)) r)
theorem MA.length {K : PySem.W.Frag} {T : List Addr} {Hv H : Hp} : ∀ {fa : List Addr} {vs : List V} {ds : List (Bool × D)}, MA K T Hv H fa vs ds → vs.length = ds.length
  | _, _, _, .nil => rfl
  | _, _, _, .val _ r => by rw [List.length_cons, List.length_cons, r.length]
  | _, _, _, .new _ r => by rw [List.length_cons, List.length_cons, r.length]
structure Mr (K : PySem.W.Frag) (c : Ct) (os : List (Option Addr)) (ρ : Env) (μ : Store) (σ : L2.St) (Hs H : Hp) (fa : List Addr) (vs : List V) (ds : List (Bool × D)) : Prop where
  rl : Rl K (c.avs fa) os ρ μ σ H
  ma : MA K c.T (vw (c.avs fa) os H) H fa vs ds
  nd : fa.Nodup
  fr : ∀ a ∈ fa, Hs a = none ∧ ¬ c.A a ∧ a ∉ c.T ∧ some a ∉ os ∧ c.He a = none
abbrev XM := Env → Store → Res (List (Bool × D))
def tM (K : PySem.W.Frag) (cl : Nat → Addr) (W : WX) (f : XM) : TA := fun σ H Q => ∃ c os ρ μ, Rl K c os ρ μ σ H ∧ Out (f ρ μ) (fun ds μ' => ∀ fa vs H', Mr K c os ρ μ' σ H H' fa vs ds → Kp c H H' → Q vs H') (EOk K cl W c os ρ σ H)
def mNil : XM := fun _ μ => .ok [] μ
def mVal (f : XD) (fs : XM) : XM := fun ρ μ => (f ρ μ).bind fun d μ1 => (fs ρ μ1).bind fun ds μ2 => .ok ((false, d) :: ds) μ2
def mNew (f : XD) (fs : XM) : XM := fun ρ μ => (f ρ μ).bind fun d μ1 => (fs ρ μ1).bind fun ds μ2 => .ok ((true, d) :: ds) μ2
section
variable {X : Cx} {cl : Nat → Addr} {W : WX} {e : Expr} {es : List Expr} {f : XD} {fs : XM}
theorem jNil : PA X [] (tM X.K cl W mNil) := pa_imp pa_nil fun σ H Q => by
  rintro ⟨c, os, ρ, μ, r, h⟩
  exact h [] [] H ⟨by rw [avs_nil]; exact r, .nil, List.nodup_nil, fun a h => by cases h⟩ (Kp.refl _ _)
theorem jVal (ha : PE X e (tE X.K cl W f)) (hr : PA X es (tM X.K cl W fs)) (hs : starEach (e :: es) X.env = (false, eval e X.env) :: starEach es X.env := by rfl) : PA X (e :: es) (tM X.K cl W (mVal f fs)) := pa_imp (pa_cons ha hr hs) fun σ H Q => by
  rintro ⟨c, os, ρ, μ, r, h⟩
  refine ⟨c, os, ρ, μ, r, (Out.bind h).imp (fun d1 μ1 h1 => ?_) fun _ _ q => q⟩
  intro v1 H1 r1 e1 p1
  refine ⟨c, os, ρ, μ1, r1, (Out.bind h1).imp (fun ds μ2 h2 => ?_) fun _ _ q => q.mono e1⟩
  intro fa vs H2 m k
  refine h2 fa _ H2 ⟨m.rl, .val (p1.mono ?_) m.ma, m.nd, fun a ha => ?_⟩ (e1.trans k)
  · intro b o hb
    obtain ⟨g1, g2, g3, g4⟩ := vw_some.mp hb
    exact vw_some.mpr ⟨k b o g1 g3, fun z => z.elim g2 (fun y => by rw [(m.fr b y).1] at g1; cases g1), g3, g4⟩
  · obtain ⟨q1, q2, q3, q4, q5⟩ := m.fr a ha
    refine ⟨?_, q2, q3, q4, q5⟩
    cases eh : H a with
    | none => rfl
    | some o => rw [e1 a o eh q3] at q1; cases q1
theorem EOk.av {K : PySem.W.Frag} {c : Ct} {os : List (Option Addr)} {ρ : Env} {μ : Store} {σ : L2.St} {H : Hp} {x : Exn} {a : Addr} (h : EOk K cl W c os ρ σ H x μ) (hp : x.pay = none) (h1 : ¬ c.A a) (h2 : a ∉ c.T) (h3 : some a ∉ os) (h4 : c.He a = none) : EOk K cl W (c.av a) os ρ σ H x μ := fun e dx H' q k ex =>
  h e dx H' (q.move rfl vw_av (fun _ _ _ h => h) (fun _ _ _ h => h) (fun b hb => ⟨fun z => (q.own b hb).2.1 (.inl z), (q.own b hb).2.2⟩) (fun b hb z => q.tA b hb (.inl z)) q.keep (fun b hb => q.dom b (.inl hb))) k (by
    unfold ExAt at ex ⊢
    rw [hp] at ex ⊢
    exact ex)
theorem jNew (ha : PE X e (tF X.K cl W f)) (hr : PA X es (tM X.K cl W fs)) (hp : Plain fs) (hs : starEach (e :: es) X.env = (false, eval e X.env) :: starEach es X.env := by rfl) : PA X (e :: es) (tM X.K cl W (mNew f fs)) := pa_imp (pa_cons ha hr hs) fun σ H Q => by
  rintro ⟨c, os, ρ, μ, r, h⟩
  refine ⟨c, os, ρ, μ, r, (Out.bind h).imp (fun d1 μ1 h1 => ?_) fun _ _ q => q⟩
  intro a H1 f1 e1 nH
  have h1' := Out.bind h1
  refine ⟨c.av a, os, ρ, μ1, f1.rl, ?_⟩
  cases eF : fs ρ μ1 with
  | fail => rw [eF] at h1'; exact h1'
  | exc x μ2 => rw [eF] at h1'; exact EOk.av (EOk.mono e1 h1') (hp _ _ _ _ eF) f1.nA f1.nT f1.no f1.he
  | ok ds μ2 =>
    rw [eF] at h1'
    intro fa vs H2 m k
    have ha : ∀ b ∈ fa, b ≠ a := fun b hb z => (m.fr b hb).2.1 (.inr z)
    obtain ⟨o, ho⟩ := f1.ow.there
    refine h1' (a :: fa) _ H2 ⟨by rw [← avs_cons]; exact m.rl, ?_, List.nodup_cons.mpr ⟨fun z => ha a z rfl, m.nd⟩, fun b hb => ?_⟩ (e1.trans k)
    · rw [← avs_cons]
      refine .new (f1.ow.mono ?_ fun o h => k a o h f1.nT) m.ma
      intro b o hb
      obtain ⟨g1, g2, g3, g4⟩ := vw_some.mp hb
      exact vw_some.mpr ⟨k b o g1 g3, fun z => z.elim g2 (fun y => by rw [(m.fr b y).1] at g1; cases g1), g3, g4⟩
    · rcases List.mem_cons.mp hb with z | z
      · subst z
        exact ⟨nH, f1.nA, f1.nT, f1.no, f1.he⟩
      · obtain ⟨q1, q2, q3, q4, q5⟩ := m.fr b z
        refine ⟨?_, fun y => q2 (.inl y), q3, q4, q5⟩
        cases eh : H b with
        | none => rfl
        | some o => rw [e1 b o eh q3] at q1; cases q1
end
end DC
set_option Elab.async false
set_option linter.all false
set_option maxRecDepth 100000
set_option maxHeartbeats 2000000
/-! DC: several values stored, sources of walks, cells, defs. -/
namespace DC
open PySem PySem.Spec PyProof.Rows L2
theorem avs_av (c : Ct) (a : Addr) (fa : List Addr) : (c.avs fa).av a = c.avs (a :: fa) := by
  cases c
  unfold Ct.avs Ct.av
  congr 1
  funext b
  simp only [List.mem_cons, eq_iff_iff]
  constructor
  · rintro ((h | h) | h)
    · exact .inl h
    · exact .inr (.inr h)
    · exact .inr (.inl h)
  · rintro (h | h | h)
    · exact .inl (.inl h)
    · exact .inr h
    · exact .inl (.inr h)
theorem vw_put {c : Ct} {os : List (Option Addr)} {H : Hp} {a : Addr} {i : Nat} : Exts (vw (c.av a) os H) (vw c (os.set i (some a)) H) := fun b o h => by
  obtain ⟨h1, h2, h3, h4⟩ := vw_some.mp h
  exact vw_some.mpr ⟨h1, fun q => h2 (.inl q), h3, fun q => (mem_set_some q).elim h4 fun z => h2 (.inr z)⟩
def setAll : List Nat → List (Bool × D) → Env → Option Env
  | [], [], ρ => some ρ
  | i :: is, (b, d) :: ds, ρ => setAll is ds (ρ.set i (if b then .ow d else .fz d))
  | _, _, _ => none
def setAllV : List Nat → List V → L2.St → L2.St
  | i :: is, v :: vs, σ => setAllV is vs (σ.set i (some v))
  | _, _, σ => σ
theorem set_all {K : PySem.W.Frag} {c : Ct} {μ : Store} {H : Hp} : ∀ {is : List Nat} {ds : List (Bool × D)} {fa : List Addr} {vs : List V} {os : List (Option Addr)} {ρ ρ' : Env} {σ : L2.St}, Rl K (c.avs fa) os ρ μ σ H → MA K c.T (vw (c.avs fa) os H) H fa vs ds → fa.Nodup → (∀ a ∈ fa, ¬ c.A a ∧ a ∉ c.T ∧ some a ∉ os ∧ c.He a = none) → setAll is ds ρ = some ρ' → ∃ os', Rl K c os' ρ' μ (setAllV is vs σ) H
  | [], [], _, _, _, _, _, _, r, m, _, _, e => by
    cases m
    cases e
    rw [avs_nil] at r
    exact ⟨_, r⟩
  | [], _ :: _, _, _, _, _, _, _, _, _, _, _, e => by cases e
  | _ :: _, [], _, _, _, _, _, _, _, _, _, _, e => by cases e
  | i :: is, (b, d) :: ds, _, _, os, ρ, ρ', σ, r, m, nd, hf, e => by
    cases m with
    | val p m =>
      exact show ∃ os', Rl K c os' ρ' μ (setAllV is _ (σ.set i _)) H from set_all (is := is) (ds := ds) (r.set p) (m.mono (vw_os fun a h => mem_set_none h) fun _ _ _ h => h) nd (fun a ha => ⟨(hf a ha).1, (hf a ha).2.1, fun z => (hf a ha).2.2.1 (mem_set_none z), (hf a ha).2.2.2⟩) e
    | @new fa a _ _ _ w m =>
      rw [← avs_av] at r m w
      obtain ⟨n1, n2⟩ := List.nodup_cons.mp nd
      obtain ⟨q1, q2, q3, q4⟩ := hf a (by simp)
      have f : Fr K (c.avs fa) os ρ μ σ H a d := ⟨r, w, fun z => z.elim q1 n1, q2, q3, q4⟩
      refine show ∃ os', Rl K c os' ρ' μ (setAllV is _ (σ.set i _)) H from set_all (is := is) (ds := ds) (f.put i) (m.mono vw_put fun _ _ _ h => h) n2 (fun x hx => ?_) e
      obtain ⟨k1, k2, k3, k4⟩ := hf x (List.mem_cons_of_mem _ hx)
      exact ⟨k1, k2, fun z => (mem_set_some z).elim k3 fun y => n1 (by rw [← y]; exact hx), k4⟩
def sPar (is : List Nat) (fs : XM) : SD := fun ρ μ => (fs ρ μ).st ρ fun ds μ' => match setAll is ds ρ with
  | some ρ' => .nx ρ' μ'
  | none => .fail
def gNames : List Nat → TGs
  | [] => gNil
  | i :: is => gCons (gName i) (gNames is)
theorem gNames_run : ∀ {is : List Nat} {vs : List V} {σ : L2.St} {H : Hp} {Q : L2.St → Hp → Prop}, vs.length = is.length → Q (setAllV is vs σ) H → gNames is vs σ H Q
  | [], [], _, _, _, _, q => ⟨rfl, q⟩
  | [], _ :: _, _, _, _, e, _ => by cases e
  | _ :: _, [], _, _, _, e, _ => by cases e
  | i :: is, v :: vs, σ, H, Q, e, q => ⟨v, vs, rfl, gNames_run (is := is) (Nat.succ.inj e) q⟩
theorem setAll_len : ∀ {is : List Nat} {ds : List (Bool × D)} {ρ ρ' : Env}, setAll is ds ρ = some ρ' → ds.length = is.length
  | [], [], _, _, _ => rfl
  | [], _ :: _, _, _, e => by cases e
  | _ :: _, [], _, _, e => by cases e
  | i :: is, (b, d) :: ds, ρ, ρ', e => by
    rw [List.length_cons, List.length_cons, setAll_len (show setAll is ds _ = some ρ' from e)]
section
variable {X : Cx} {cl : Nat → Addr} {W : WX} {fr : Bool} {fs : XM} {s0 : Stmt} {i j l : Nat}
theorem par_imp {is : List Nat} {E : Ends} {σ : L2.St} {H : Hp} (h : tS X.K cl W fr (sPar is fs) E σ H) : tM X.K cl W fs σ H fun vs H1 => vs.length = is.length ∧ E.nx (setAllV is vs σ) H1 := by
  obtain ⟨c, os, ρ, μ, r, h⟩ := h
  refine ⟨c, os, ρ, μ, r, (SOut.st h).imp (fun ds μ1 h1 => ?_) fun _ _ q => q⟩
  intro fa vs H1 m k
  cases e : setAll is ds ρ with
  | none => rw [e] at h1; exact h1.elim
  | some ρ' =>
    rw [e] at h1
    obtain ⟨os', r'⟩ := set_all m.rl m.ma m.nd (fun a ha => (m.fr a ha).2) e
    exact ⟨by rw [m.ma.length]; exact setAll_len e, h1 os' _ H1 r'⟩
theorem tM_mono {σ : L2.St} {H : Hp} {Q Q' : List V → Hp → Prop} (h : tM X.K cl W fs σ H Q) (i : ∀ vs H, Q vs H → Q' vs H) : tM X.K cl W fs σ H Q' := by
  obtain ⟨c, os, ρ, μ, r, h⟩ := h
  exact ⟨c, os, ρ, μ, r, h.imp (fun ds μ1 h1 fa vs H1 m k => i _ _ (h1 fa vs H1 m k)) fun _ _ q => q⟩
theorem hPar2 (h : PS X s0 (tPar i j (tM X.K cl W fs))) : PS X s0 (tS X.K cl W fr (sPar [i, j] fs)) := ps_imp h fun E σ H q => tM_mono (par_imp q) fun vs H1 ⟨hl, q⟩ => by
  match vs, hl with
  | [v, w], _ => exact ⟨v, w, rfl, q⟩
theorem hPar3 (h : PS X s0 (tPar3 i j l (tM X.K cl W fs))) : PS X s0 (tS X.K cl W fr (sPar [i, j, l] fs)) := ps_imp h fun E σ H q => tM_mono (par_imp q) fun vs H1 ⟨hl, q⟩ => by
  match vs, hl with
  | [u, v, w], _ => exact ⟨u, v, w, rfl, q⟩
/-- four and more names: by a tuple that is made and taken apart -/
theorem hParT {is : List Nat} (h : PS X s0 (tAsg (tTup (tM X.K cl W fs)) (gTup X.K is.length (gNames is)))) (hz : is.length ≤ 1000 := by decide) : PS X s0 (tS X.K cl W fr (sPar is fs)) := ps_imp h fun E σ H q => by
  obtain ⟨c, os, ρ, μ, r, h⟩ := q
  refine ⟨c, os, ρ, μ, r, (SOut.st h).imp (fun ds μ1 h1 => ?_) fun _ _ q => q⟩
  intro fa vs H1 m k
  cases e : setAll is ds ρ with
  | none => rw [e] at h1; exact h1.elim
  | some ρ' =>
    rw [e] at h1
    have hl : vs.length = is.length := by rw [m.ma.length]; exact setAll_len e
    refine ⟨by rw [hl]; exact Nat.le_trans hz (by rw [sizeLine_eq]; decide), fun p n => ⟨p, vs, rfl, .inl (.inl upd_same), hl, gNames_run hl ?_⟩⟩
    have r2 := m.rl.new (o := .tup vs) n
    have ma2 := m.ma.mono (vw_mono (c := c.avs fa) (os := os) (Exts.new (o := .tup vs) n)) (H' := upd H1 p (.tup vs)) fun a ha o ho => by rw [upd_ne (ne_of_none ho n)]; exact ho
    obtain ⟨os', r'⟩ := set_all r2 ma2 m.nd (fun a ha => (m.fr a ha).2) e
    exact h1 os' _ _ r'
end
/-! ### sources of walks -/
def strD (z : Str) : List D := z.cps.toList.map fun c => D.str ⟨#[c]⟩
def iSeqD : D → Option (List D)
  | .lst ds => some ds
  | .tup ds => some ds
  | .scr ns => some (ns.map D.int)
  | .str z => some (strD z)
  | _ => none
def iSeq (f : XD) : XL := fun ρ μ => (f ρ μ).bind fun d μ' => Res.ofO (iSeqD d) μ'
def rangeD (lo : Int) (n : Nat) : List D := (List.range n).map fun i => D.int (lo + (i : Nat))
def rangeC (lo c : Int) (n : Nat) : List D := (List.range n).map fun i => D.int (lo + (i : Nat) * c)
def rgOk (i : Int) : Bool := Nat.blt i.natAbs 4611686018427387904
def iRg1 (fs : XL) : XL := fun ρ μ => (fs ρ μ).bind fun ds μ' => match ds with
  | [.int j] => if rgOk j then .ok (rangeD 0 j.toNat) μ' else .fail
  | _ => .fail
def iRg2 (fs : XL) : XL := fun ρ μ => (fs ρ μ).bind fun ds μ' => match ds with
  | [.int i, .int j] => if rgOk i && rgOk j then .ok (rangeD i (j - i).toNat) μ' else .fail
  | _ => .fail
/-- downwards by one -/
def iRg3 (fs : XL) : XL := fun ρ μ => (fs ρ μ).bind fun ds μ' => match ds with
  | [.int i, .int j, .int c] => if rgOk i && rgOk j && decide (c = -1) then .ok (rangeC i (-1) (i - j).toNat) μ' else .fail
  | _ => .fail
def pairD (x y : D) : D := .tup [x, y]
def wZip (fs : XL) : XL := fun ρ μ => (fs ρ μ).bind fun ds μ' => match ds with
  | [.lst xs, .lst ys] => .ok (List.zipWith pairD xs ys) μ'
  | _ => .fail
def enumD (xs : List D) : List D := xs.mapIdx fun i x => .tup [.int (i : Nat), x]
def wEnum (fs : XL) : XL := fun ρ μ => (fs ρ μ).bind fun ds μ' => match ds with
  | [.lst xs] => .ok (enumD xs) μ'
  | _ => .fail
section
variable {K : PySem.W.Frag} {T : List Addr} {G H : Hp}
theorem yd_at {xs : List V} {ds : List D} (p : RpA K T G xs ds) : ∀ i H x H', YAt xs i H x H' → YD K T G ds i H x H' := fun i H x H' ⟨e, h⟩ => by
  obtain ⟨d, h1, h2⟩ := p.getV h
  exact ⟨d, h1, .inl ⟨e, h2⟩⟩
theorem rangeD_get {lo : Int} {n i : Nat} (h : i < n) : (rangeD lo n)[i]? = some (.int (lo + (i : Nat))) := by
  unfold rangeD
  rw [List.getElem?_map, List.getElem?_range h]
  rfl
theorem rangeC_get {lo c : Int} {n i : Nat} (h : i < n) : (rangeC lo c n)[i]? = some (.int (lo + (i : Nat) * c)) := by
  unfold rangeC
  rw [List.getElem?_map, List.getElem?_range h]
  rfl
theorem rangeD_len (lo : Int) (n : Nat) : (rangeD lo n).length = n := by unfold rangeD; rw [List.length_map, List.length_range]
theorem rangeC_len (lo c : Int) (n : Nat) : (rangeC lo c n).length = n := by unfold rangeC; rw [List.length_map, List.length_range]
theorem rgOk_of {i : Int} (h : rgOk i = true) : -(2 ^ 62) ≤ i ∧ i < 2 ^ 62 := by
  have z : i.natAbs < 4611686018427387904 := Nat.le_of_ble_eq_true h
  omega
end
section
variable {X : Cx} {cl : Nat → Addr} {W : WX} {tg e e2 : Expr} {f : XD} {fs : XL} {p pos tpos : Pos} {elts : List Expr} {kk : Nat}
theorem jSeq (h : PE X e (tE X.K cl W f)) : PI X tg e (tI X.K cl W (iSeq f)) := pi_imp (pi_or (pi_list h) (pi_or (pi_tup h) (pi_str h))) fun σ H R => by
  rintro ⟨c, os, ρ, μ, r, h⟩
  have h' := Out.bind h
  cases ef : f ρ μ with
  | fail => rw [ef] at h'; exact h'.elim
  | exc x μ1 => exact .inl ⟨c, os, ρ, μ, r, by rw [ef] at h' ⊢; exact h'⟩
  | ok d μ1 =>
    rw [ef] at h'
    obtain ⟨ds, e1, h2⟩ := Out.ofO h'
    cases d with
    | lst es =>
      cases e1
      refine .inl ⟨c, os, ρ, μ, r, ?_⟩
      rw [ef]
      intro v H1 r1 k p
      obtain ⟨a, xs, rfl, g1, g2⟩ := p.inv_lst
      refine ⟨a, rfl, ⟨xs, .inl (.inl (vw_le _ _ g1))⟩, h2 _ H1 r1 k ⟨fun H => SqL X.K H a xs, fun H2 e => .inl (.inl (e _ _ g1)), ?_⟩⟩
      rw [← g2.length]
      exact walk_list.mono (fun _ h => h) fun i H x H' _ _ y => yd_at g2 i H x H' y
    | tup es =>
      cases e1
      refine .inr (.inl ⟨c, os, ρ, μ, r, ?_⟩)
      rw [ef]
      intro v H1 r1 k p
      obtain ⟨a, xs, rfl, g1, g2⟩ := p.inv_tup
      refine ⟨a, rfl, ⟨xs, vw_le.sqT g1⟩, h2 _ H1 r1 k ⟨fun H => SqT X.K H a xs, fun H2 e => e.sqT g1, ?_⟩⟩
      rw [← g2.length]
      exact walk_tup.mono (fun _ h => h) fun i H x H' _ _ y => yd_at g2 i H x H' y
    | scr ns =>
      cases e1
      refine .inl ⟨c, os, ρ, μ, r, ?_⟩
      rw [ef]
      intro v H1 r1 k p
      obtain ⟨a, rfl, g1⟩ := p.inv_scr
      refine ⟨a, rfl, ⟨_, vw_le.sqL g1⟩, h2 _ H1 r1 k ⟨fun H => SqL X.K H a (ns.map V.int), fun H2 e => e.sqL g1, ?_⟩⟩
      rw [show (ns.map D.int).length = (ns.map V.int).length by rw [List.length_map, List.length_map]]
      exact walk_list.mono (fun _ h => h) fun i H x H' _ _ y => yd_at (RpA.of_ints ns) i H x H' y
    | str z =>
      cases e1
      refine .inr (.inr ⟨c, os, ρ, μ, r, ?_⟩)
      rw [ef]
      intro v H1 r1 k p
      obtain ⟨e1, e2⟩ := p.inv_str
      subst e1
      refine ⟨z, rfl, h2 _ H1 r1 k ⟨fun _ => True, fun _ _ => trivial, ?_⟩⟩
      rw [show (strD z).length = z.cps.size by unfold strD; rw [List.length_map, Array.length_toList]]
      refine walk_str.mono (fun _ h => h) fun i H x H' _ _ y => ?_
      obtain ⟨y1, ch, y2, y3⟩ := y
      refine ⟨.str ⟨#[ch]⟩, ?_, .inl ⟨y1, ?_⟩⟩
      · unfold strD
        rw [List.getElem?_map, Array.getElem?_toList, y2]
        rfl
      · rw [y3]
        refine .str ?_
        rw [strOk_iff] at e2
        have := List.all_eq_true.mp e2 ch (by
          have : z.cps.toList[i]? = some ch := by rw [Array.getElem?_toList, y2]
          exact List.mem_of_getElem? this)
        unfold strOk
        simpa using this
    | _ => cases e1
theorem jRg1 {a : Expr} (hg : Gl X "range") (hm : X.mg "range" = none) (ha : PA X [a] (tL X.K cl W fs)) (hs : starEach [a] X.env = [(false, eval a X.env)] := by rfl) : PI X tg (.Call (.Name "range" p) [a] [] pos) (tI X.K cl W (iRg1 fs)) := pi_imp (pi_range1 hg hm ha hs) fun σ H R => by
  rintro ⟨c, os, ρ, μ, r, h⟩
  refine ⟨c, os, ρ, μ, r, (Out.bind h).imp (fun ds μ1 h1 => ?_) fun _ _ q => q⟩
  intro vs H1 r1 k pv
  split at h1
  · rename_i j
    by_cases hj : rgOk j = true
    · rw [if_pos hj] at h1
      obtain ⟨v, z, pw⟩ := pv.one
      subst z
      refine ⟨j, by rw [pw.inv_int], (rgOk_of hj).1, (rgOk_of hj).2, h1 _ H1 r1 k ⟨fun _ => True, fun _ _ => trivial, ?_⟩⟩
      rw [rangeD_len]
      exact walk_range.mono (fun _ h => h) fun i H x H' hi _ y => ⟨_, rangeD_get hi, .inl ⟨y.1, by rw [y.2]; exact .int _⟩⟩
    · rw [if_neg hj] at h1
      exact h1.elim
  · exact h1.elim
theorem jRg2 {a b : Expr} (hg : Gl X "range") (hm : X.mg "range" = none) (ha : PA X [a, b] (tL X.K cl W fs)) (hs : starEach [a, b] X.env = [(false, eval a X.env), (false, eval b X.env)] := by rfl) (hs2 : starEach [b] X.env = [(false, eval b X.env)] := by rfl) : PI X tg (.Call (.Name "range" p) [a, b] [] pos) (tI X.K cl W (iRg2 fs)) := pi_imp (pi_range2 hg hm ha hs hs2) fun σ H R => by
  rintro ⟨c, os, ρ, μ, r, h⟩
  refine ⟨c, os, ρ, μ, r, (Out.bind h).imp (fun ds μ1 h1 => ?_) fun _ _ q => q⟩
  intro vs H1 r1 k pv
  split at h1
  · rename_i i j
    by_cases hj : (rgOk i && rgOk j) = true
    · rw [if_pos hj] at h1
      rw [Bool.and_eq_true] at hj
      obtain ⟨v, w, z, pu, pw⟩ := pv.two
      subst z
      refine ⟨i, j, by rw [pu.inv_int, pw.inv_int], ⟨(rgOk_of hj.1).1, (rgOk_of hj.1).2, (rgOk_of hj.2).1, (rgOk_of hj.2).2⟩, h1 _ H1 r1 k ⟨fun _ => True, fun _ _ => trivial, ?_⟩⟩
      rw [rangeD_len]
      exact walk_range.mono (fun _ h => h) fun i H x H' hi _ y => ⟨_, rangeD_get hi, .inl ⟨y.1, by rw [y.2]; exact .int _⟩⟩
    · rw [if_neg hj] at h1
      exact h1.elim
  · exact h1.elim
theorem pair_get {xs ys : List V} {dx dy : List D} {K : PySem.W.Frag} {T : List Addr} {G : Hp} (px : RpA K T G xs dx) (py : RpA K T G ys dy) : ∀ i H x H', YPair (fun i => xs[i]?) (fun i => ys[i]?) i H x H' → YD K T G (List.zipWith pairD dx dy) i H x H' := fun i H v H' => by
  rintro ⟨q, x, y, h1, h2, h3, h4, h5⟩
  obtain ⟨d, e1, e2⟩ := px.getV h4
  obtain ⟨d', f1, f2⟩ := py.getV h5
  refine ⟨.tup [d, d'], ?_, .inr ⟨q, x, y, d, d', h1, h2, h3, rfl, e2, f2⟩⟩
  rw [List.getElem?_zipWith, e1, f1]
  rfl
theorem jZip (h : PI X tg e (iZip X.K (tL X.K cl W fs))) : PI X tg e (tI X.K cl W (wZip fs)) := pi_imp h fun σ H R => by
  rintro ⟨c, os, ρ, μ, r, h⟩
  refine ⟨c, os, ρ, μ, r, (Out.bind h).imp (fun ds μ1 h1 => ?_) fun _ _ q => q⟩
  intro vs H1 r1 k pv
  split at h1
  · rename_i xs ys
    obtain ⟨v, w, z, pu, pw⟩ := pv.two
    subst z
    obtain ⟨a, us, rfl, g1, g2⟩ := pu.inv_lst
    obtain ⟨b, ws, rfl, g3, g4⟩ := pw.inv_lst
    refine ⟨a, b, us, ws, rfl, .inl (.inl (vw_le _ _ g1)), .inl (.inl (vw_le _ _ g3)), h1 _ H1 r1 k ⟨fun H => SqL X.K H a us ∧ SqL X.K H b ws, fun H2 e => ⟨.inl (.inl (e _ _ g1)), .inl (.inl (e _ _ g3))⟩, ?_⟩⟩
    exact (walk_zip (by rw [List.length_zipWith, g2.length, g4.length])).mono (fun _ h => h) fun i H x H' _ _ y => pair_get g2 g4 i H x H' y
  · exact h1.elim
theorem jEnum (h : PI X tg e (iEnum X.K (tL X.K cl W fs))) : PI X tg e (tI X.K cl W (wEnum fs)) := pi_imp h fun σ H R => by
  rintro ⟨c, os, ρ, μ, r, h⟩
  refine ⟨c, os, ρ, μ, r, (Out.bind h).imp (fun ds μ1 h1 => ?_) fun _ _ q => q⟩
  intro vs H1 r1 k pv
  split at h1
  · rename_i xs
    obtain ⟨v, z, pu⟩ := pv.one
    subst z
    obtain ⟨a, us, rfl, g1, g2⟩ := pu.inv_lst
    refine ⟨a, us, rfl, .inl (.inl (vw_le _ _ g1)), h1 _ H1 r1 k ⟨fun H => SqL X.K H a us, fun H2 e => .inl (.inl (e _ _ g1)), ?_⟩⟩
    rw [show (enumD xs).length = us.length by unfold enumD; rw [List.length_mapIdx, g2.length]]
    refine walk_enum.mono (fun _ h => h) fun i H x H' _ _ y => ?_
    obtain ⟨q, x, y, h1, h2, h3, h4, h5⟩ := y
    obtain ⟨d, e1, e2⟩ := g2.getV h5
    cases h4
    refine ⟨.tup [.int (i : Nat), d], ?_, .inr ⟨q, _, y, _, d, h1, h2, h3, rfl, .int _, e2⟩⟩
    unfold enumD
    rw [List.getElem?_mapIdx, e1]
    rfl
  · exact h1.elim
end
end DC
set_option Elab.async false
set_option linter.all false
set_option maxRecDepth 100000
set_option maxHeartbeats 2000000
/-! DC: stores by index, cells made, defs. -/
namespace DC
open PySem PySem.Spec PyProof.Rows L2
/-! ### x[i] = e: a cell, an own list -/
def sSetI (i : Nat) (fi fe : XD) : SD := fun ρ μ => (fe ρ μ).st ρ fun d μ1 => match ρ[i]? with
  | some (.fz (.own n)) => (fi ρ μ1).st ρ fun k μ2 => match d, k, μ2[n]? with
    | .int z, .int j, some ns => (match ixN ns.length j with
      | some p => .nx ρ (μ2.set n (ns.set p z))
      | none => .fail)
    | _, _, _ => .fail
  | some (.ow (.lst ds)) => (fi ρ μ1).st ρ fun k μ2 => match k with
    | .int j => (match ixN ds.length j with
      | some p => .nx (ρ.set i (.ow (.lst (ds.set p d)))) μ2
      | none => .fail)
    | _ => .fail
  | _ => .fail
theorem ints_set {ns : List Int} {p : Nat} {z : Int} : (ns.map V.int).set p (.int z) = (ns.set p z).map V.int := by
  rw [List.map_set]
section
variable {X : Cx} {cl : Nat → Addr} {W : WX} {fr : Bool} {fi fe : XD} {s0 : Stmt} {rest : List Stmt} {i : Nat} {F : SD}
theorem hSetI (h : PS X s0 (tAsg (tE X.K cl W fe) (gSub (tVar i) (tE X.K cl W fi) rSetL))) : PS X s0 (tS X.K cl W fr (sSetI i fi fe)) := ps_imp h fun E σ H => by
  rintro ⟨c, os, ρ, μ, r, h⟩
  refine ⟨c, os, ρ, μ, r, (SOut.st h).imp (fun d μ1 h1 => ?_) fun _ _ q => q⟩
  intro v1 H1 r1 e1 p1
  split at h1
  · rename_i n e0
    obtain ⟨v, g1, g2, g3⟩ := r1.get e0
    obtain ⟨a, g4, g5⟩ := g2.inv_own
    subst g4
    refine ⟨_, g1, c, os, ρ, μ1, r1, (SOut.st h1).imp (fun k μ2 h2 => ?_) fun _ _ q => q⟩
    intro v2 H2 r2 e2 p2
    split at h2
    · rename_i z j ns e3
      split at h2
      · rename_i p e4
        obtain ⟨q1, q2⟩ := r2.setCell (ns := ns.set p z) g5
        refine ⟨a, ns.map V.int, j, p, rfl, p2.inv_int, r2.st n a ns g5 e3, by rw [List.length_map]; exact e4, ?_⟩
        rw [p1.inv_int, ints_set]
        exact h2 os σ _ q1
      · exact h2.elim
    · exact h2.elim
  · rename_i ds e0
    obtain ⟨a, g1, g2, g3⟩ := r1.getOw e0
    refine ⟨_, g1, c, os, ρ, μ1, r1, (SOut.st h1).imp (fun k μ2 h2 => ?_) fun _ _ q => q⟩
    intro v2 H2 r2 e2 p2
    split at h2
    · rename_i j
      split at h2
      · rename_i p e4
        obtain ⟨a', k1, k2, k3⟩ := r2.getOw e0
        have ea : a' = a := by
          rw [g1] at k1
          have := Option.some.inj (Option.some.inj k1)
          cases this; rfl
        subst ea
        cases k3 with
        | lst q k =>
          rename_i ys
          refine ⟨a', ys, j, p, rfl, p2.inv_int, q, by rw [k.length]; exact e4, ?_⟩
          exact h2 os σ _ (r2.change k1 k2 (.lst upd_same (RpA.set (p1.mono e2.vw) p k)))
      · exact h2.elim
    · exact h2.elim
  · exact h1.elim
mutual
theorem Rp.moreT {K : PySem.W.Frag} {T T' : List Addr} {H : Hp} (e : ∀ (n : Nat) (b : Addr), T[n]? = some b → T'[n]? = some b) : ∀ {d : D} {v : V}, Rp K T H v d → Rp K T' H v d
  | .non, _, h => by cases h; exact .non
  | .bl _, _, h => by cases h; exact .bl _
  | .int _, _, h => by cases h; exact .int _
  | .str _, _, h => by cases h with | str q => exact .str q
  | .tup ds, _, h => by cases h with | tup q r => exact .tup q (RpA.moreT e r)
  | .lst ds, _, h => by cases h with | lst q r => exact .lst q (RpA.moreT e r)
  | .scr ns, _, h => by cases h with | scr q => exact .scr q
  | .dk ks ds, _, h => by cases h with | dk q z r => exact .dk q z (RpA.moreT e r)
  | .dt ks ds, _, h => by cases h with | dt q z r => exact .dt q z (RpA.moreT e r)
  | .own n, _, h => by cases h with | own q => exact .own (e _ _ q)
theorem RpA.moreT {K : PySem.W.Frag} {T T' : List Addr} {H : Hp} (e : ∀ (n : Nat) (b : Addr), T[n]? = some b → T'[n]? = some b) : ∀ {ds : List D} {vs : List V}, RpA K T H vs ds → RpA K T' H vs ds
  | [], _, h => by cases h; exact .nil
  | d :: ds, _, h => by cases h with | cons q r => exact .cons (Rp.moreT e q) (RpA.moreT e r)
end
theorem OwAt.moreT {K : PySem.W.Frag} {T T' : List Addr} {Hv H : Hp} {a : Addr} {d : D} (e : ∀ (n : Nat) (b : Addr), T[n]? = some b → T'[n]? = some b) : OwAt K T Hv H a d → OwAt K T' Hv H a d
  | .lst h r => .lst h (r.moreT e)
  | .dk h z r => .dk h z (r.moreT e)
  | .dt h z r => .dt h z (r.moreT e)
/-- from here on the own list of ints at slot i is a cell -/
def sProm (i : Nat) (F : SD) : SD := fun ρ μ => match ρ[i]? with
  | some (.ow (.lst ds)) => (match D.ints ds with
    | some ns => (match F (ρ.set i (.fz (.own μ.length))) (μ ++ [ns]) with
      | .rt (.bl b) μ' => .rt (.bl b) (μ'.take μ.length)
      | _ => .fail)
    | none => .fail)
  | _ => .fail
theorem hProm (h : PSs X rest (tS X.K cl W false F)) : PSs X rest (tS X.K cl W false (sProm i F)) := pss_imp h fun E σ H => by
  rintro ⟨c, os, ρ, μ, r, h⟩
  unfold sProm at h
  split at h
  · rename_i ds e0
    split at h
    · rename_i ns e1
      have z := D.ints_eq e1
      subst z
      obtain ⟨a, g1, g2, g3⟩ := r.getOw e0
      have hm : some a ∈ os := List.mem_of_getElem? g2
      obtain ⟨w1, w2, w3⟩ := r.own a hm
      have hH : H a = some (.lst (ns.map V.int)) := by
        cases g3 with
        | lst q k => rw [k.ints] at q; exact q
      have l1 : i < os.length := (List.getElem?_eq_some_iff.mp g2).1
      have lρ : i < ρ.length := by rw [r.lr, ← r.lo]; exact l1
      have ev : vw { c with T := c.T ++ [a] } (os.set i none) H = vw c os H := by
        funext b
        unfold vw
        by_cases hb : (c.A b ∨ b ∈ c.T ∨ some b ∈ os)
        · rw [if_pos hb, if_pos]
          rcases hb with z | z | z
          · exact .inl z
          · exact .inr (.inl (List.mem_append_left _ z))
          · by_cases eb : b = a
            · exact .inr (.inl (List.mem_append_right _ (by simp [eb])))
            · refine .inr (.inr ?_)
              obtain ⟨j, hj⟩ := List.getElem?_of_mem z
              have nj : i ≠ j := fun e => by
                subst e
                rw [g2] at hj
                exact eb (Option.some.inj (Option.some.inj hj)).symm
              exact List.mem_of_getElem? (i := j) (by rw [List.getElem?_set_ne nj]; exact hj)
        · rw [if_neg hb, if_neg]
          rintro (z | z | z)
          · exact hb (.inl z)
          · rcases List.mem_append.mp z with z | z
            · exact hb (.inr (.inl z))
            · have : b = a := by simpa using z
              exact hb (.inr (.inr (by rw [this]; exact hm)))
          · exact hb (.inr (.inr (mem_set_none z)))
      have r' : Rl X.K { c with T := c.T ++ [a] } (os.set i none) (ρ.set i (.fz (.own μ.length))) (μ ++ [ns]) σ H := by
        refine ⟨by simp [r.lo], by simp [r.lr], fun j o s x q1 q2 q3 => ?_, fun j k b q1 q2 => ?_, fun b q => ?_, fun b q z => ?_, ?_, by simp [r.sm], fun n b ms q1 q2 => ?_, fun b o q1 q2 => r.keep b o q1 fun z => q2 (List.mem_append_left _ z), r.dom⟩
        · have mT : ∀ (n : Nat) (b : Addr), c.T[n]? = some b → (c.T ++ [a])[n]? = some b := fun n b q => by
            rw [List.getElem?_append_left (List.getElem?_eq_some_iff.mp q).1]; exact q
          rw [ev]
          by_cases hj : i = j
          · subst hj
            rw [List.getElem?_set_self l1] at q1
            rw [List.getElem?_set_self lρ] at q2
            rw [g1] at q3
            cases q1; cases q2; cases q3
            refine .own ?_
            rw [r.sm, List.getElem?_append_right (Nat.le_refl _), Nat.sub_self]
            rfl
          · rw [List.getElem?_set_ne hj] at q1 q2
            have q := r.sl j o s x q1 q2 q3
            unfold SlAt at q ⊢
            split at q
            · trivial
            · exact q.moreT mT
            · exact ⟨q.1, q.2.moreT mT⟩
            · exact q.elim
        · have g : ∀ m, (os.set i none)[m]? = some (some b) → os[m]? = some (some b) := fun m hm => by
            by_cases e : i = m
            · subst e
              rw [List.getElem?_set_self l1] at hm; cases hm
            · rw [List.getElem?_set_ne e] at hm; exact hm
          exact r.inj j k b (g j q1) (g k q2)
        · have w := r.own b (mem_set_none q)
          refine ⟨fun z => ?_, w.2⟩
          rcases List.mem_append.mp z with z | z
          · exact w.1 z
          · have eb : b = a := by simpa using z
            subst eb
            obtain ⟨j, hj⟩ := List.getElem?_of_mem q
            by_cases e : i = j
            · subst e
              rw [List.getElem?_set_self l1] at hj; cases hj
            · rw [List.getElem?_set_ne e] at hj
              exact e (r.inj i j b g2 hj)
        · rcases List.mem_append.mp q with y | y
          · exact r.tA b y z
          · have eb : b = a := by simpa using y
            subst eb; exact w2 z
        · exact List.nodup_append.mpr ⟨r.tn, by simp, fun x hx y hy e => by
            have : y = a := by simpa using hy
            subst this; subst e; exact w1 hx⟩
        · by_cases hn : n < c.T.length
          · rw [List.getElem?_append_left hn] at q1
            rw [List.getElem?_append_left (by rw [r.sm]; exact hn)] at q2
            exact r.st n b ms q1 q2
          · have hl : n < (c.T ++ [a]).length := (List.getElem?_eq_some_iff.mp q1).1
            have en : n = c.T.length := by simp at hl; omega
            subst en
            rw [List.getElem?_append_right (Nat.le_refl _), Nat.sub_self] at q1
            rw [List.getElem?_append_right (by rw [r.sm]; exact Nat.le_refl _), r.sm, Nat.sub_self] at q2
            cases q1; cases q2
            exact hH
      refine ⟨{ c with T := c.T ++ [a] }, _, _, _, r', ?_⟩
      have h' : SOut X.K cl W false c E (match F (ρ.set i (.fz (.own μ.length))) (μ ++ [ns]) with
        | .rt (.bl b) μ' => .rt (.bl b) (μ'.take μ.length)
        | _ => .fail) := h
      split at h'
      · rename_i b μ' eF
        rw [eF]
        intro v os2 ρ2 σ2 H2 r2 p2
        have z := p2.inv_bl
        subst z
        have r3 : Rl X.K c [] [] (μ'.take μ.length) [] H2 := by
          refine ⟨rfl, rfl, fun j o s x q => (by simp at q), fun j k b q => (by simp at q), fun b q => (by cases q), fun b q => r2.tA b (List.mem_append_left _ q), r.tn, ?_, fun n b ms q1 q2 => ?_, fun b o q1 q2 => r2.keep b o q1 fun z => ?_, r2.dom⟩
          · have := r2.sm
            simp at this
            rw [List.length_take, r.sm]
            omega
          · refine r2.st n b ms (by rw [List.getElem?_append_left (List.getElem?_eq_some_iff.mp q1).1]; exact q1) ?_
            rw [List.getElem?_take] at q2
            split at q2
            · exact q2
            · cases q2
          · rcases List.mem_append.mp z with z | z
            · exact q2 z
            · have eb : b = a := by simpa using z
              subst eb
              rw [w3] at q1; cases q1
        exact h' (.bl b) [] [] [] H2 r3 (.bl b)
      · exact h'.elim
    · exact h.elim
  · exact h.elim
end
/-! ### a def, by its body -/
def entry (n : Nat) (ds : List D) : Env := ds.map Sl.fz ++ List.replicate (n - ds.length) Sl.no
def bodyD (F : SD) (n : Nat) (ds : List D) (μ : Store) : Res D := match F (entry n ds) μ with
  | .rt d μ' => .ok d μ'
  | .nx _ μ' => .ok .non μ'
  | .exc x _ μ' => .exc x μ'
  | _ => .fail
def bodyF (F : SD) (n : Nat) (ds : List D) (μ : Store) : Res D := match F (entry n ds) μ with
  | .rt d μ' => .ok d μ'
  | .exc x _ μ' => .exc x μ'
  | _ => .fail
section
variable {K : PySem.W.Frag} {cl : Nat → Addr} {A : Addr → Prop} {T : List Addr} {μ : Store} {H : Hp}
theorem Rl.entry {N : List Str} {vs : List V} {ds : List D} (r : Rl K ⟨A, T, H⟩ [] [] μ [] H) (p : RpA K T (vw ⟨A, T, H⟩ [] H) vs ds) (hl : ds.length ≤ N.length) : Rl K ⟨A, T, H⟩ (List.replicate N.length none) (DC.entry N.length ds) μ (start N vs) H := by
  have hvl := p.length
  have no : ∀ i a, (List.replicate N.length (none : Option Addr))[i]? ≠ some (some a) := fun i a h => by
    rw [List.getElem?_replicate] at h
    split at h
    · cases h
    · cases h
  have nm : ∀ a, some a ∉ List.replicate N.length (none : Option Addr) := fun a h => by
    obtain ⟨_, z⟩ := List.mem_replicate.mp h
    cases z
  have ev : vw ⟨A, T, H⟩ (List.replicate N.length none) H = vw ⟨A, T, H⟩ [] H := by
    funext b
    unfold vw
    by_cases hb : (A b ∨ b ∈ T ∨ some b ∈ ([] : List (Option Addr)))
    · rw [if_pos hb, if_pos]
      rcases hb with z | z | z
      · exact .inl z
      · exact .inr (.inl z)
      · cases z
    · rw [if_neg hb, if_neg]
      rintro (z | z | z)
      · exact hb (.inl z)
      · exact hb (.inr (.inl z))
      · exact nm _ z
  refine ⟨?_, ?_, fun i o s x h1 h2 h3 => ?_, fun i j a h => absurd h (no i a), fun a h => absurd h (nm a), r.tA, r.tn, r.sm, r.st, r.keep, r.dom⟩
  · unfold L2.start
    simp
    omega
  · unfold L2.start DC.entry
    simp
    omega
  · rw [ev]
    have eo : o = none := by
      rw [List.getElem?_replicate] at h1
      split at h1
      · exact (Option.some.inj h1).symm
      · cases h1
    subst eo
    unfold L2.start at h3
    unfold DC.entry at h2
    by_cases hi : i < ds.length
    · rw [List.getElem?_append_left (by simpa using hi), List.getElem?_map] at h2
      rw [List.getElem?_append_left (by simp; omega), List.getElem?_map] at h3
      obtain ⟨d, e1, e2⟩ := Option.map_eq_some_iff.mp h2
      obtain ⟨v, e3, e4⟩ := Option.map_eq_some_iff.mp h3
      obtain ⟨v', g1, g2⟩ := p.get e1
      rw [e3] at g1
      cases g1
      subst e2 e4
      exact g2
    · rw [List.getElem?_append_right (by simp; omega), List.getElem?_replicate] at h2
      split at h2
      · cases h2; trivial
      · cases h2
theorem Rl.bare {c : Ct} {os : List (Option Addr)} {ρ : Env} {σ : L2.St} (r : Rl K c os ρ μ σ H) : Rl K c [] [] μ [] H :=
  ⟨rfl, rfl, fun j o s x q => (by simp at q), fun j k b q => (by simp at q), fun b q => (by cases q), r.tA, r.tn, r.sm, r.st, r.keep, r.dom⟩
theorem Fr.bare {c : Ct} {os : List (Option Addr)} {ρ : Env} {σ : L2.St} {a : Addr} {d : D} (f : Fr K c os ρ μ σ H a d) : Fr K c [] [] μ [] H a d :=
  ⟨f.rl.bare, f.ow.mono (vw_os fun a h => by cases h) fun _ h => h, f.nA, f.nT, by simp, f.he⟩
theorem ExAt.bare {c : Ct} {os : List (Option Addr)} {x : Exn} {e : Value} {dx : Option Addr} (h : ExAt K cl c os x e dx H) : ExAt K cl c [] x e dx H := by
  unfold ExAt at h ⊢
  refine ⟨h.1, ?_⟩
  have q := h.2
  split at q
  · rename_i e0
    exact q
  · rename_i e0
    obtain ⟨a, v, g1, g2, g3⟩ := q
    exact ⟨a, v, g1, g2, g3.mono (vw_os fun a h => by cases h)⟩
end
section
variable {P : Program} {w : World} {K : PySem.W.Frag} {mg : Str → Option Value} {base : Heap} {cl : Nat → Addr}
abbrev WE0 (E : XK) : WX := fun cls d _ H => E cls d H
theorem okD {x qual : Str} {st : Stmt} {f : Addr} {fd : FuncData} {N ps : List Str} {k : Nat} {FB : SD} (F : Fun K x qual st f fd) (S : FnScope N ps (defScope st)) (hn : ps.length ≤ N.length)
    (hb : ∀ (cdv : Value) (A : Around) (outer : List PySem.Env) (s : Shared) (H : Hp) (E : XK), Room k (A.deeper (envOfC qual (defScope st) s.heap.objs.size f cdv)) →
      PSs (cxOf (L2.CX P w) P w K mg base N qual (defScope st) f cdv A outer s H E) (defBody st) (tS K cl (WE0 E) false FB)) : FnOk P w K mg base (L2.CX P w) (k + 1) f fd ps (SpD K cl ps.length (bodyD FB N.length)) := by
  refine F.okX S (fun vs H Q E h => ?_) (fun cdv A outer s H vs Q E hr h => ⟨_, hb cdv A outer s H E hr, ?_⟩)
  · obtain ⟨A, T, μ, ds, r, p, hl, _⟩ := h
    rw [p.length, hl]
  · obtain ⟨A, T, μ, ds, r, p, hl, h⟩ := h
    refine ⟨⟨A, T, H⟩, _, _, μ, r.entry p (by rw [hl]; exact hn), ?_⟩
    unfold bodyD at h
    cases e : FB (entry N.length ds) μ with
    | rt d μ' =>
      rw [e] at h
      exact fun v os ρ σ H' r' p' => h v H' r'.bare (p'.mono (vw_os fun a h => by cases h))
    | nx ρ μ' =>
      rw [e] at h
      exact fun os σ H' r' => h .non H' r'.bare .non
    | exc x ρ μ' =>
      rw [e] at h
      exact fun v dx os σ H' r' p' => h v dx H' r'.bare p'.bare
    | bk ρ μ' => rw [e] at h; exact h.elim
    | ct ρ μ' => rw [e] at h; exact h.elim
    | fail => rw [e] at h; exact h.elim
theorem okF {x qual : Str} {st : Stmt} {f : Addr} {fd : FuncData} {N ps : List Str} {k : Nat} {FB : SD} (F : Fun K x qual st f fd) (S : FnScope N ps (defScope st)) (hn : ps.length ≤ N.length)
    (hb : ∀ (cdv : Value) (A : Around) (outer : List PySem.Env) (s : Shared) (H : Hp) (E : XK), Room k (A.deeper (envOfC qual (defScope st) s.heap.objs.size f cdv)) →
      PSs (cxOf (L2.CX P w) P w K mg base N qual (defScope st) f cdv A outer s H E) (defBody st) (tS K cl (WE0 E) true (sSeq FB sFail))) : FnOk P w K mg base (L2.CX P w) (k + 1) f fd ps (SpF K cl ps.length (bodyF FB N.length)) := by
  refine F.okX S (fun vs H Q E h => ?_) (fun cdv A outer s H vs Q E hr h => ⟨_, hb cdv A outer s H E hr, ?_⟩)
  · obtain ⟨A, T, μ, ds, r, p, hl, _⟩ := h
    rw [p.length, hl]
  · obtain ⟨A, T, μ, ds, r, p, hl, h⟩ := h
    refine ⟨⟨A, T, H⟩, _, _, μ, r.entry p (by rw [hl]; exact hn), ?_⟩
    unfold bodyF at h
    unfold sSeq
    cases e : FB (entry N.length ds) μ with
    | rt d μ' =>
      rw [e] at h
      exact fun a os ρ σ H' f => h a H' f.bare
    | nx ρ μ' =>
      rw [e] at h
      exact h.elim
    | exc x ρ μ' =>
      rw [e] at h
      exact fun v dx os σ H' r' p' => h v dx H' r'.bare p'.bare
    | bk ρ μ' => rw [e] at h; exact h.elim
    | ct ρ μ' => rw [e] at h; exact h.elim
    | fail => rw [e] at h; exact h.elim
end
end DC
set_option Elab.async false
set_option linter.all false
set_option maxRecDepth 100000
set_option maxHeartbeats 4000000
/-! DC: rules the hand layer lacks: t * k at the ends, t[::-1], enumerate of tuples and texts. -/
namespace DC
open PySem PySem.Spec PyProof.Rows L2
/-! ### t * k, k ≤ 1 or t empty -/
theorem tuple_mulS (l : Addr) (items : Array Value) (n : Nat) (x : Int) (u : Tok) (c0 : (decide (x < -(2 ^ 63)) || decide (x ≥ 2 ^ 63)) = false) (c1 : (items.isEmpty || x == 1) = true) :
    Meets (Builtin.«tuple.__mul__» ⟨[.ref l, .int x u], []⟩) (fun _ R s => (∃ dd sl, s.heap.get? l = some { cls := .type "tuple", dict := dd, data := .seq items n, slots := sl }) ∧ R (.ok (.ret (Value.ref l))) s) :=
  .of_wp fun prog w A R s h => by
    obtain ⟨hp, g, d, tk, os⟩ := s
    obtain ⟨⟨dd, sl, hl⟩, h⟩ := h
    have f1 := AutoSeq1.idx_int
    wp_walk using wpAny_loadPart' hl
    repeat (first
      | (refine wpAny_ite_false (decide_eq_false (by rw [c0]; exact Bool.false_ne_true)) ?_; wp_walk using wpAny_loadPart' hl)
      | (refine wpAny_ite_true (decide_eq_true (by rw [c1])) ?_; wp_walk using wpAny_loadPart' hl))
    exact ⟨_, rfl, h⟩
theorem tuple_mul0 (l : Addr) (items : Array Value) (n : Nat) (x : Int) (u : Tok) (c0 : (decide (x < -(2 ^ 63)) || decide (x ≥ 2 ^ 63)) = false) (c1 : (items.isEmpty || x == 1) = false) (c2 : (decide (x ≤ 0) || items.isEmpty) = true) :
    Meets (Builtin.«tuple.__mul__» ⟨[.ref l, .int x u], []⟩) (fun _ R s => (∃ dd sl, s.heap.get? l = some { cls := .type "tuple", dict := dd, data := .seq items n, slots := sl }) ∧
      R (.ok (.ret (Value.ref s.heap.objs.size))) { s with heap := s.heap.push { cls := Value.type "tuple", data := Data.seq #[] }, toks := s.toks }) :=
  .of_wp fun prog w A R s h => by
    obtain ⟨hp, g, d, tk, os⟩ := s
    obtain ⟨⟨dd, sl, hl⟩, h⟩ := h
    have f1 := AutoSeq1.idx_int
    have hsz : (#[] : Array Value).size ≤ sizeLine := Nat.zero_le _
    wp_walk using wpAny_loadPart' hl
    repeat (first
      | (refine wpAny_ite_false (decide_eq_false (by rw [c0]; exact Bool.false_ne_true)) ?_; wp_walk using wpAny_loadPart' hl)
      | (refine wpAny_ite_false (decide_eq_false (by rw [c1]; exact Bool.false_ne_true)) ?_; wp_walk using wpAny_loadPart' hl)
      | (refine wpAny_ite_true (decide_eq_true (by rw [c2])) ?_; wp_walk using wpAny_loadPart' hl)
      | (refine wpAny_ite_false (decide_eq_false (Nat.not_lt.mpr hsz)) ?_; wp_walk using wpAny_loadPart' hl))
    exact ⟨_, rfl, h⟩
/-- t * k: new, or (k = 1, t empty) t itself -/
def rRepA (K : PySem.W.Frag) : R2 := fun x y H Q => ∃ l k xs, x = .ref l ∧ y = .int k ∧ SqT K H l xs ∧ -1000 ≤ k ∧ k ≤ 1000 ∧ xs.length ≤ 1000 ∧ ((xs = [] ∨ k = 1) → Q (.ref l) H) ∧ (¬ (xs = [] ∨ k = 1) → ∀ p, H p = none → Q (.ref p) (upd H p (.tup (List.replicate k.toNat xs).flatten)))
section
variable {X : Cx}
theorem op_repA : OpR X (binaryOp .Mult) (rRepA X.K) := by
  intro pins s σ H x y v u Q I rx ry h
  obtain ⟨l, k, xs, rfl, rfl, hT, h0, h1, hz, q1, q2⟩ := h
  by_cases hb : 2 ≤ k ∧ xs ≠ []
  · exact op_repT pins s σ H _ _ _ _ Q I rx ry ⟨l, k, xs, rfl, rfl, hT, hb.2, hb.1, h1, hz, q2 fun z => z.elim hb.2 fun z => by omega⟩
  cases rx
  obtain ⟨t, rfl⟩ := ry
  obtain ⟨its, r, ⟨⟨cls, dd, data, sl⟩, ho, hc, n, hd⟩, hs⟩ := I.tuple hT
  simp only at hc hd
  subst hc hd
  have hle : its.length = xs.length := r.length.symm
  have c0 : (decide (k < -(2 ^ 63)) || decide (k ≥ 2 ^ 63)) = false := by
    rw [decide_eq_false (by omega), decide_eq_false (by omega)] <;> rfl
  have hie : its.toArray.isEmpty = true ↔ xs = [] := by
    constructor
    · intro z
      have : its = [] := by simpa using z
      rw [this] at hle
      exact List.eq_nil_of_length_eq_zero hle.symm
    · intro z
      rw [z] at hle
      have : its = [] := List.eq_nil_of_length_eq_zero hle
      simp [this]
  by_cases hs1 : xs = [] ∨ k = 1
  · have c1 : (its.toArray.isEmpty || k == 1) = true := by
      rcases hs1 with z | z
      · rw [hie.mpr z]; rfl
      · rw [z]; simp
    refine wpAny_binaryOp_repeat_ref (T := "tuple") (U := "int") (by decide) ⟨_, ho, rfl⟩ (fun s' => typeIs_int s' k t) noFill_tuple_mul F.fills_int_mul F.slot_int_rmul repeat_tuple F.slot_int_index.lookup
      (call_meets F.slot_int_rmul (typeIs_int s k t) F.entry_int_rmul (F.args_int_rmul_2 _ _) (int_rmul_tuple k t l its.toArray n dd sl)
        ⟨ho, rfl, ⟨_, ho, rfl⟩, call_meets F.slot_tuple_mul ⟨_, ho, rfl⟩ F.entry_tuple_mul (F.args_tuple_mul_2 _ _) (tuple_mulS l its.toArray n k t c0 c1) ⟨⟨_, _, ho⟩, ?_⟩⟩)
    exact ⟨.ref l, H, I, rfl, q1 hs1⟩
  · have c1 : (its.toArray.isEmpty || k == 1) = false := by
      cases e : its.toArray.isEmpty with
      | true => exact absurd (.inl (hie.mp e)) hs1
      | false => exact beq_eq_false_iff_ne.mpr fun z => hs1 (.inr z)
    have hk : k ≤ 0 := by
      by_cases h2 : 2 ≤ k
      · exact absurd ⟨h2, fun z => hs1 (.inl z)⟩ hb
      · have : k ≠ 1 := fun z => hs1 (.inr z)
        omega
    have c2 : (decide (k ≤ 0) || its.toArray.isEmpty) = true := by rw [decide_eq_true hk]; rfl
    refine wpAny_binaryOp_repeat_ref (T := "tuple") (U := "int") (by decide) ⟨_, ho, rfl⟩ (fun s' => typeIs_int s' k t) noFill_tuple_mul F.fills_int_mul F.slot_int_rmul repeat_tuple F.slot_int_index.lookup
      (call_meets F.slot_int_rmul (typeIs_int s k t) F.entry_int_rmul (F.args_int_rmul_2 _ _) (int_rmul_tuple k t l its.toArray n dd sl)
        ⟨ho, rfl, ⟨_, ho, rfl⟩, call_meets F.slot_tuple_mul ⟨_, ho, rfl⟩ F.entry_tuple_mul (F.args_tuple_mul_2 _ _) (tuple_mul0 l its.toArray n k t c0 c1 c2) ⟨⟨_, _, ho⟩, ?_⟩⟩)
    have e0 : (List.replicate k.toNat xs).flatten = [] := by
      have : k.toNat = 0 := by omega
      rw [this]; rfl
    refine ⟨.ref s.heap.objs.size, _, I.laid (t' := s.toks) (o := .tup (List.replicate k.toNat xs).flatten) (fun b ob q => Heap.get?_push_of_some _ q) (Nat.le_refl _) ?_, rfl, q2 hs1 _ (I.hok.fresh (Nat.le_refl _))⟩
    rw [e0]
    exact ⟨Nat.zero_le _, [], .nil, IsTup.new _ _⟩
end
def mulT : D → D → Option D
  | .tup xs, .int k => if decide (-1000 ≤ k) && decide (k ≤ 1000) && Nat.ble xs.length 1000 then some (.tup (List.replicate k.toNat xs).flatten) else none
  | _, _ => none
theorem o_mulT {K : PySem.W.Frag} : Op2 K (rRepA K) mulT := fun {c os ρ μ σ H x y d1 d2 d Q} r p1 p2 e q => by
  unfold mulT at e
  split at e
  · rename_i xs k
    split at e
    · rename_i hl
      cases e
      simp only [Bool.and_eq_true, decide_eq_true_eq] at hl
      obtain ⟨a, vs, rfl, g1, g2⟩ := p1.inv_tup
      have hlen : vs.length ≤ 1000 := by rw [g2.length]; exact Nat.le_of_ble_eq_true hl.2
      refine ⟨a, k, vs, rfl, p2.inv_int, vw_le.sqT g1, hl.1.1, hl.1.2, hlen, fun z => ?_, fun _ p n => VOk.newT q r (g2.rep _) n⟩
      rcases z with z | z
      · subst z
        cases g2
        have e0 : (List.replicate k.toNat ([] : List D)).flatten = [] := by
          induction k.toNat with
          | zero => rfl
          | succ n ih => rw [List.replicate_succ, List.flatten_cons, ih]; rfl
        rw [e0] at q
        exact VOk.same q r (.tup g1 .nil)
      · subst z
        have e0 : (List.replicate (1 : Int).toNat xs).flatten = xs := by
          show (List.replicate 1 xs).flatten = xs
          simp
        rw [e0] at q
        exact VOk.same q r (.tup g1 g2)
    · cases e
  · cases e
/-! ### t[::-1] -/
section
variable {prog : Program} {w : World} {A : Around} {E : Value → Shared → Prop} {s : Shared}
theorem sliceApplied_rev {sl : Addr} {t : Tok} {n : Nat} {Q : Int × Int × Nat → Shared → Prop} (hs : s.heap.IsSliceOf sl .none .none (.int (-1) t))
    (h : Q ((n : Int) - 1, -1, n) s) : wpAny (model prog w) A (Builtin.Slice.sliceApplied (.ref sl) (pure (n : Int))) Q E s := by
  obtain ⟨os, hos, hcs, hds⟩ := id hs
  unfold Builtin.Slice.sliceApplied Builtin.Slice.sliceFields
  refine wpAny_bind (wpAny_bind (wpAny_field hos hds (x := .none) rfl (wpAny_bind (wpAny_field hos hds (x := .none) rfl (wpAny_bind (wpAny_field hos hds (x := .int (-1) t) rfl (wpAny_pure ?_)))))))
  refine wpAny_bind (slicePart_int ?_)
  show wpAny _ _ (if ((-1 : Int) == 0) = true then _ else _) _ _ s
  rw [if_neg (by decide)]
  refine wpAny_bind (slicePart_none (wpAny_bind (slicePart_none (wpAny_bind (wpAny_pure ?_)))))
  have e1 : Builtin.Slice.sliceAdjust none none (-1) (n : Int) = ((n : Int) - 1, -1) := by
    unfold Builtin.Slice.sliceAdjust
    simp
  show wpAny _ _ (match Builtin.Slice.sliceAdjust none none (-1) (n : Int) with | (lo, hi) => pure (lo, (-1 : Int), Builtin.Slice.slicePlaces lo hi (-1))) _ _ s
  rw [e1]
  have e2 : Builtin.Slice.slicePlaces ((n : Int) - 1) (-1) (-1) = n := by
    unfold Builtin.Slice.slicePlaces
    simp
    split <;> omega
  show wpAny _ _ (pure ((n : Int) - 1, (-1 : Int), Builtin.Slice.slicePlaces ((n : Int) - 1) (-1) (-1))) _ _ s
  rw [e2]
  exact wpAny_pure h
theorem fm_congr {α β : Type} {f g : α → Option β} : ∀ {l : List α}, (∀ k, k ∈ l → f k = g k) → l.filterMap f = l.filterMap g
  | [], _ => rfl
  | a :: l, h => by
    rw [List.filterMap_cons, List.filterMap_cons, h a (by simp), fm_congr fun k hk => h k (List.mem_cons_of_mem _ hk)]
theorem pick_rev (xs : Array Value) : ((List.range xs.size).filterMap fun (k : Nat) => xs[((xs.size : Int) - 1 + (k : Int) * (-1)).toNat]?).toArray = xs.toList.reverse.toArray := by
  have e : ∀ k, k ∈ List.range xs.size → xs[((xs.size : Int) - 1 + (k : Int) * (-1)).toNat]? = xs.toList.reverse[k]? := fun k hk => by
    have hk := List.mem_range.mp hk
    have e2 : ((xs.size : Int) - 1 + (k : Int) * (-1)).toNat = xs.size - 1 - k := by omega
    rw [e2, List.getElem?_reverse (by simpa using hk)]
    simp
  have h2 : (List.range xs.size).filterMap (fun (k : Nat) => xs[((xs.size : Int) - 1 + (k : Int) * (-1)).toNat]?) = xs.toList.reverse := by
    have h3 : ∀ (l : List Value) (n : Nat), n = l.length → (List.range n).filterMap (fun k => l[k]?) = l := fun l n hn => by
      subst hn
      induction l with
      | nil => rfl
      | cons a l ih =>
        rw [List.length_cons, List.range_succ_eq_map, List.filterMap_cons]
        simp only [List.getElem?_cons_zero]
        rw [List.filterMap_map]
        have : ((fun k => (a :: l)[k]?) ∘ Nat.succ) = fun k => l[k]? := by funext k; simp
        rw [this, ih]
    rw [fm_congr e]
    exact h3 _ _ (by simp)
  rw [h2]
theorem getItem_tuple_rev {t sl : Addr} {items : Array Value} {tk : Tok} {Q : Value → Shared → Prop} (ht : IsTup s.heap t items) (hs : s.heap.IsSliceOf sl .none .none (.int (-1) tk))
    (h : Q (.ref s.heap.objs.size) { s with heap := s.heap.push { cls := .type "tuple", data := .seq items.toList.reverse.toArray } })
    (hsz : items.size ≤ sizeLine) : wpAny (model prog w) A (getItem (.ref t) (.ref sl)) Q E s := by
  have htake : sizeOk (.seq items.toList.reverse.toArray) := by
    show items.toList.reverse.toArray.size ≤ sizeLine
    simpa using hsz
  obtain ⟨os, hos, hcs, hds⟩ := id hs
  have hTs : s.TypeIs (.ref sl) "slice" := ⟨os, hos, hcs⟩
  unfold getItem
  try with_reducible refine wpAny_holding ?_
  first | refine wpAny_bind (wpAny_pure ?_) | skip
  refine wpAny_bind (wpAny_sequenceKey ht.typeIs (by decide) ?_)
  refine wpAny_bind (wpAny_callSpecial?_slot (name := Str.ofString "__getitem__") ht.typeIs PyProof.Rows.slot_tuple_getitem
    (wpAny_call_entry PyProof.Rows.slot_tuple_getitem ht.typeIs entry_tuple_getitem ?_ (args_tuple_getitem _ _)))
  show wpAny _ _ (Builtin.Tuple.tupleItemsOf (.ref t) >>= _) _ _ s
  refine wpAny_bind (tupleItemsOf_ ht ?_)
  refine wpAny_bind (wpAny_typeOf hTs ?_)
  rw [if_pos (by decide)]
  refine wpAny_bind (sliceApplied_rev hs ?_)
  have hno : ¬ ((((items.size : Nat) : Int) - 1 == 0 && (-1 : Int) == 1 && items.size == items.size) = true) := by
    intro q
    rw [Bool.and_eq_true, Bool.and_eq_true] at q
    exact absurd q.1.2 (by decide)
  show wpAny _ _ (if (((items.size : Nat) : Int) - 1 == 0 && (-1 : Int) == 1 && items.size == items.size) = true then _ else _) _ _ s
  rw [if_neg hno, pick_rev]
  first
    | exact wpAny_bind (m := Builtin.Tuple.tupleExact _) (wpAny_newObj_type (wpAny_pure ⟨_, rfl, wpAny_pure h⟩) htake)
    | exact wpAny_bind (m := Builtin.Tuple.tupleExact _) (wpAny_newObj_type (wpAny_bind (wpAny_pure (wpAny_pure ⟨_, rfl, wpAny_pure h⟩))) htake)
    | exact wpAny_bind (wpAny_bind (m := Builtin.Tuple.tupleExact _) (wpAny_newObj_type (wpAny_pure (wpAny_pure ⟨_, rfl, wpAny_pure h⟩)) htake))
    | exact wpAny_bind (wpAny_bind (m := Builtin.Tuple.tupleExact _) (wpAny_newObj_type (wpAny_pure ⟨_, rfl, wpAny_pure h⟩) htake))
end
def tRevT (K : PySem.W.Frag) (te : TE) : TE := fun σ H Q => te σ H fun x H1 => ∃ a xs, x = .ref a ∧ SqT K H1 a xs ∧ ∀ p, H1 p = none → Q (.ref p) (upd H1 p (.tup xs.reverse))
section
variable {X : Cx}
theorem pe_revT {e : Expr} {te : TE} {k : Nat} {p1 p2 p3 pos : Pos} (he : PE X e te) : PE X (.Subscript e (.Slice none none (some (.UnaryOp .USub (.Constant (.int 1) k p1) p2)) p3) pos) (tRevT X.K te) := by
  refine ⟨fun pins s σ H Q I h => ?_⟩
  refine Subscript_ (thn (he.run pins s σ H _ I h) fun v s1 ⟨x, H1, I1, r1, q1⟩ => ?_)
  obtain ⟨a, xs, ex, hx, q⟩ := q1
  subst ex
  cases r1
  have hst : PO X (some (.UnaryOp .USub (.Constant (.int 1) k p1) p2)) (tPart (tUn (rU fun i => .int (-i)) (tC (.int 1)))) := po_some (pe_un un_neg pe_int)
  refine wpAny_Slice (thn (po_none.run pins s1 σ H1 (fun o H2 => o = none ∧ H2 = H1) I1 ⟨rfl, rfl⟩) fun vl s2 ⟨l, H2, I2, pl, el, e2⟩ => ?_)
  subst el e2
  refine thn (po_none.run pins s2 σ H2 (fun o H3 => o = none ∧ H3 = H2) I2 ⟨rfl, rfl⟩) fun vu s3 ⟨u, H3, I3, pu, eu, e3⟩ => ?_
  subst eu e3
  refine thn (hst.run pins s3 σ H3 (fun o H4 => o = some (-1) ∧ H4 = H3) I3 ⟨1, rfl, -1, rfl, rfl, rfl⟩) fun vs s4 ⟨o, H4, I4, ps, eo, e4⟩ => ?_
  subst eo e4
  have I5 : Inv X pins σ H4 { s4 with heap := s4.heap.push { cls := .type "slice", data := .fields #[vl, vu, vs] } } := I4.kept (t' := s4.toks) fun b ob q => Heap.get?_push_of_some _ q
  obtain ⟨its, r, ht, hz⟩ := I5.tuple hx
  have hlen := r.length
  cases pl
  cases pu
  cases ps with
  | int _ tk =>
  show wpAny (model X.prog X.w) X.A (subscriptTail e (.Slice none none (some (.UnaryOp .USub (.Constant (.int 1) k p1) p2)) p3) (.ref a) (.ref s4.heap.objs.size)) (EP X pins σ Q) X.xe { s4 with heap := s4.heap.push { cls := .type "slice", data := .fields #[.none, .none, .int (-1) tk] } }
  refine tail_any (ops := [.ref a, .ref s4.heap.objs.size]) ht.typeIs (PyProof.Rows.slot_tuple_getitem.lookup) ?_ (by with_unfolding_all rfl)
  refine getItem_tuple_rev ht (Heap.IsSliceOf.new _ _ _ _) ?_ (by rw [List.size_toArray]; omega)
  refine ⟨.ref _, _, I5.laid (t' := s4.toks) (o := .tup xs.reverse) (fun b ob q => Heap.get?_push_of_some _ q) (Nat.le_refl _) ?_, rfl, q _ (I5.hok.fresh (Nat.le_refl _))⟩
  exact ⟨by rw [List.length_reverse]; exact hz, _, r.reverse, IsTup.new _ _⟩
end
def revTD : D → Option D
  | .tup xs => some (.tup xs.reverse)
  | _ => none
theorem dRevT {X : Cx} {cl : Nat → Addr} {W : WX} {f : XD} {e : Expr} {k : Nat} {p1 p2 p3 pos : Pos} (he : PE X e (tE X.K cl W f)) : PE X (.Subscript e (.Slice none none (some (.UnaryOp .USub (.Constant (.int 1) k p1) p2)) p3) pos) (tE X.K cl W (xUn revTD f)) := pe_imp (pe_revT he) fun σ H Q => by
  rintro ⟨c, os, ρ, μ, r, h⟩
  refine ⟨c, os, ρ, μ, r, (Out.bind h).imp (fun d1 μ1 h1 => ?_) fun _ _ q => q⟩
  intro v1 H1 r1 e1 p1
  obtain ⟨d, e, h3⟩ := Out.ofO h1
  unfold revTD at e
  split at e
  · cases e
    obtain ⟨a, vs, z, g1, g2⟩ := p1.inv_tup
    subst z
    exact ⟨a, vs, rfl, vw_le.sqT g1, fun p n => VOk.newT (VOk.mono e1 h3) r1 g2.reverse n⟩
  · cases e
end DC
set_option Elab.async false
set_option linter.all false
set_option maxRecDepth 100000
set_option maxHeartbeats 4000000
/-! DC: enumerate of tuples and texts. -/
namespace DC
open PySem PySem.Spec PyProof.Rows L2
open AutoSeq1 (wpAny_loadPart')
section
variable {prog : Program} {w : World} {A : Around} {E : Value → Shared → Prop} {s : Shared}
theorem meets_enumT (l : Addr) (items : Array Value) (n : Nat) (dct : Option Addr) (sl : Array (Option Value)) :
    Meets (Builtin.«enumerate.__new__» ⟨[.type "enumerate", .ref l], []⟩) (fun _ R s => s.heap.get? l = some { cls := .type "tuple", dict := dct, data := .seq items n, slots := sl } ∧
      R (.ok (.ret (.ref (s.heap.push { cls := .type "tuple_iterator", data := .fields #[.ref l, .int 0 0] }).objs.size)))
        { s with heap := (s.heap.push { cls := .type "tuple_iterator", data := .fields #[.ref l, .int 0 0] }).push { cls := .type "enumerate", data := .fields #[.none, .bool false, .ref s.heap.objs.size, rawInt 0, .none, .none] } }) :=
  .of_wp fun prog w A R s h => by
    obtain ⟨hp, g, d, tk, os⟩ := s; obtain ⟨hl, h⟩ := h
    have hsub := sub_enumerate
    have hL : Heap.IsTuple (Shared.heap ⟨hp, g, d, tk, os⟩) l items := ⟨_, hl, rfl, n, rfl⟩
    wp_walk using wpAny_loadPart' hl
    refine wpAny_stack_any fun st => wpAny_pure ?_
    split
    · rename_i c _ _ _ _ _
      cases (c == Value.type "enumerate")
      · wp_walk using wpAny_loadPart' hl, wpAny_pyIter_tuple hL
        exact ⟨_, rfl, h⟩
      · wp_walk using wpAny_loadPart' hl, wpAny_pyIter_tuple hL
        exact ⟨_, rfl, h⟩
    · wp_walk using wpAny_loadPart' hl, wpAny_pyIter_tuple hL
      exact ⟨_, rfl, h⟩
theorem call_enumT {l : Addr} {items : Array Value} {Q : Value → Shared → Prop} (hL : s.heap.IsTuple l items)
    (h : ∀ h', IsEnum h' (s.heap.objs.size + 1) s.heap.objs.size 0 .none → h'.IsTupleIter s.heap.objs.size l 0 → h'.objs.size = s.heap.objs.size + 2 →
      (∀ b o, s.heap.get? b = some o → h'.get? b = some o) → Q (.ref (s.heap.objs.size + 1)) { s with heap := h' }) :
    wpAny (model prog w) A (call (.type "enumerate") [.ref l]) Q E s := by
  obtain ⟨⟨c, dct, dt, sl⟩, hl, hc, n, hd⟩ := hL
  replace hc : c = .type "tuple" := hc
  replace hd : dt = .seq items n := hd
  subst hc hd
  refine callType_new F.called_enumerate (by decide) (F.typeCall_enumerate_1 _) (F.newCall_enumerate_1 _) (fun obj => F.args_object_init_2 obj _) F.entry_enumerate_new
    (meets_enumT l items n dct sl) ⟨hl, ?_⟩
  have hz : (s.heap.push { cls := .type "tuple_iterator", data := .fields #[.ref l, .int 0 0] }).objs.size = s.heap.objs.size + 1 := Heap.size_push ..
  show _ ∧ _
  rw [hz]
  have he : IsEnum ((s.heap.push { cls := .type "tuple_iterator", data := .fields #[.ref l, .int 0 0] }).push
      { cls := .type "enumerate", data := .fields #[.none, .bool false, .ref s.heap.objs.size, rawInt 0, .none, .none] }) (s.heap.objs.size + 1) s.heap.objs.size 0 .none := by
    have := Heap.get?_push_size (s.heap.push { cls := .type "tuple_iterator", data := .fields #[.ref l, .int 0 0] })
      (o := { cls := .type "enumerate", data := .fields #[.none, .bool false, .ref s.heap.objs.size, rawInt 0, .none, .none] }) rfl
    rw [hz] at this; exact this
  refine ⟨⟨_, he, rfl⟩, h _ he ⟨_, Heap.get?_push_of_some _ (Heap.get?_push_size _ rfl), rfl, rfl⟩ (by rw [Heap.size_push, hz]) fun b o x => Heap.get?_push_of_some _ (Heap.get?_push_of_some _ x)⟩
end
/-- the tuple at a as it stands at each turn, each item in a new pair -/
def IteT (K : PySem.W.Frag) (a : Addr) : It :=
  ⟨fun i H => ∃ (xs : List V) (x : V), SqT K H a xs ∧ xs[i]? = some x, fun i H v H' => ∃ T x, v = .ref T ∧ H T = none ∧ H' = upd H T (.tup [.int (i : Nat), x]) ∧ ∀ xs, SqT K H a xs → xs[i]? = some x, fun i H => ∃ xs : List V, SqT K H a xs ∧ xs.length = i⟩
theorem turn_enumT {P : Program} {w : World} {K : PySem.W.Frag} {elts : List Expr} {kk : Nat} {tpos : Pos} {a e it : Addr} (hae : e ≠ a) (hai : a ≠ it) :
    Turn P w K (.Tuple elts kk tpos) (IteT K a) [e, it] e (fun i h => (∃ old, IsEnum h e it ((i : Nat) : Int) old) ∧ h.IsTupleIter it a i ∧ e ≠ it) where
  mem := by simp
  obj := fun i h st b hb => by
    obtain ⟨⟨old, he⟩, ⟨o, ho, hc, hd⟩, _⟩ := st
    have e' : b = e ∨ b = it := by simpa using hb
    rcases e' with z | z
    · rw [z]; exact ⟨_, he, fun v q => nomatch q⟩
    · rw [z]; exact ⟨o, ho, fun v q => by rw [hd] at q; cases q⟩
  keep := fun i h h' st k => let ⟨⟨old, he⟩, hi, hne⟩ := st; ⟨⟨old, k e (by simp) _ he⟩, hi.at fun o q => k it (by simp) o q, hne⟩
  item := by
    intro X hP hw hK hc i pins s σ H E I hf st hg
    subst hP hw hK
    obtain ⟨⟨old, he⟩, hit, hne⟩ := st
    obtain ⟨xs, x, hq, hx⟩ := hg
    obtain ⟨its, rv, p, hz⟩ := I.tuple hq
    obtain ⟨u, hu, ru⟩ := rv.get hx
    have hel : e < s.heap.objs.size := Heap.lt_size he
    have hil : it < s.heap.objs.size := by obtain ⟨_, q, _⟩ := hit; exact Heap.lt_size q
    have hlt : i < its.toArray.size := by
      have := (List.getElem?_eq_some_iff.mp hu).1
      simpa using this
    have D := Draws.tuple (prog := X.prog) (w := X.w) (A := X.A.in1) (I.ok.hd hc) it a hai its.toArray
    refine wpAny_pyNext_enum_itemD D he ⟨hit, (show s.heap.IsTuple a its.toArray from p)⟩ hlt hne (by simp [hne, hae]) fun y h' tk hy ho hst' hT hsz hk => ?_
    have ey : y = u := by
      have h1 : its.toArray[i]? = some u := by simpa using hu
      rw [h1] at hy
      exact (Option.some.inj hy).symm
    subst ey
    refine ⟨_, rfl, wpAny_letOwnedTupleGo_enum (s := { s with heap := h', toks := tk + 1 }) ho fun h'' he' sb => ?_⟩
    have hT2 : h''.get? s.heap.objs.size = some { cls := .type "tuple", data := .seq #[.int i tk, y] } := (sb.2 _ (Nat.ne_of_gt hel)).trans hT
    have new : ObjOk X.prog X.w (upd H s.heap.objs.size (.tup [.int (i : Nat), x])) h'' s.heap.objs.size (.tup [.int (i : Nat), x]) :=
      ⟨by show 2 ≤ sizeLine; decide, [.int i tk, y], .cons ⟨_, rfl⟩ (.cons ru .nil), ⟨_, hT2, rfl, _, rfl⟩⟩
    have I1 : Inv X pins σ (upd H s.heap.objs.size (.tup [.int (i : Nat), x])) { s with heap := h'', toks := tk + 1 } :=
      I.turnedNew (ch := [e, it]) (fun b ob hb q => (sb.2 b (fun z => hb (by simp [z]))).trans (hk b ob (fun z => hb (by simp [z])) (fun z => hb (by simp [z])) q)) hf (Nat.le_refl _) new
    refine ⟨.ref s.heap.objs.size, _, I1, rfl, ⟨_, x, rfl, I.hok.fresh (Nat.le_refl _), rfl, fun ys hy => by rw [I.tuple_inj hy hq]; exact hx⟩, ⟨⟨y, ?_⟩, hst'.1.at fun o q => (sb.2 it (Ne.symm hne)).trans q, hne⟩, fun b hb => ?_⟩
    · have e1 : ((i + 1 : Nat) : Int) = (i : Int) + 1 := by omega
      rw [e1]; exact he'
    · have hb' : b < s.heap.objs.size := by
        have e' : b = e ∨ b = it := by simpa using hb
        rcases e' with z | z
        · rw [z]; exact hel
        · rw [z]; exact hil
      rw [upd_ne (Nat.ne_of_lt hb')]
      exact (hf b hb).1
  done := by
    intro X hP hw hK hc i pins s σ H E I hf st hg
    subst hP hw hK
    obtain ⟨⟨old, he⟩, hit, hne⟩ := st
    obtain ⟨xs, hq, hx⟩ := hg
    obtain ⟨its, rv, p, hz⟩ := I.tuple hq
    obtain ⟨f0, f1, f2, f3, f4, f5⟩ := hf it (by simp)
    have hl := rv.length
    have D := Draws.tuple (prog := X.prog) (w := X.w) (A := X.A.in1) (I.ok.hd hc) it a hai its.toArray
    have hsz : its.toArray.size = i := by rw [List.size_toArray, ← hl, hx]
    exact wpAny_pyNext_enum_endD D he (by rw [hsz]; exact ⟨hit, (show s.heap.IsTuple a its.toArray from p)⟩) fun h' eb => ⟨rfl, I.turned (t' := s.toks) (fun b o hb q => eb b o hb q) f0 f1 f3 f4 f5⟩
  self := fun A i s Q E st h => let ⟨⟨_, he⟩, _⟩ := st; wpAny_pyIter_enum he h
def iEnumT (K : PySem.W.Frag) (ta : TA) : TI := fun σ H R => ta σ H fun vs H1 => ∃ a xs, vs = [.ref a] ∧ SqT K H1 a xs ∧ R (IteT K a) H1
theorem pi_enumT {X : Cx} {e : Expr} {ta : TA} {p pos tpos : Pos} {elts : List Expr} {kk : Nat} (hg : Gl X "enumerate") (hm : X.mg "enumerate" = none) (ha : PA X [e] ta) (hs : starEach [e] X.env = [(false, eval e X.env)] := by rfl) :
    PI X (.Tuple elts kk tpos) (.Call (.Name "enumerate" p) [e] [] pos) (iEnumT X.K ta) := by
  refine ⟨fun pins s σ H R I h => ?_⟩
  refine Call_ (ld_blt I hg hm boot_enumerate (PyProof.Rows.callWith_type1 (thn (ha.run pos pins s σ H _ I h) fun us s1 ⟨vs, H1, I1, r1, q1⟩ => ?_) hs rfl))
  obtain ⟨a, xs, ex, hq, q⟩ := q1
  subst ex
  cases r1 with
  | cons r rr =>
    cases rr
    cases r
    obtain ⟨its, rv, p', hz⟩ := I1.tuple hq
    have hal : a < s1.heap.objs.size := by obtain ⟨o, ho, _⟩ := (show s1.heap.IsTuple a its.toArray from p'); exact Heap.lt_size ho
    refine call_enumT (show s1.heap.IsTuple a its.toArray from p') fun h' he hit hsz hk => wpAny_pyIter_enum he ?_
    have I2 : Inv X pins σ H1 { s1 with heap := h' } := I1.kept (t' := s1.toks) hk
    refine ⟨s1.heap.objs.size + 1, [s1.heap.objs.size + 1, s1.heap.objs.size], _, _, H1, rfl, I2, turn_enumT (a := a) (e := s1.heap.objs.size + 1) (it := s1.heap.objs.size) (Nat.ne_of_gt (Nat.lt_succ_of_lt hal)) (Nat.ne_of_lt hal), ⟨⟨.none, he⟩, hit, Nat.succ_ne_self _⟩, fun b hb => ?_, q⟩
    have e' : b = s1.heap.objs.size + 1 ∨ b = s1.heap.objs.size := by simpa using hb
    have hle : s1.heap.objs.size ≤ b := by
      rcases e' with z | z
      · rw [z]; exact Nat.le_add_right _ _
      · rw [z]; exact Nat.le_refl _
    exact I1.fpOk hle (I1.hok.fresh hle)
theorem walk_enumT {K : PySem.W.Frag} {a : Addr} {xs : List V} : Walk (IteT K a) xs.length (fun H => SqT K H a xs) (YPair (fun i => some (.int (i : Nat))) (fun i => xs[i]?)) := by
  refine ⟨fun i _ hi q => ⟨xs, xs[i], q, by simp [hi]⟩, fun _ q => ⟨xs, q, rfl⟩, fun i H v H' _ q y => ?_⟩
  obtain ⟨T, x, h1, h2, h3, h4⟩ := y
  exact ⟨T, .int (i : Nat), x, h1, h2, h3, rfl, h4 xs q⟩
/-- the signs of a text, each in a new pair -/
def IteS (z : Str) : It :=
  ⟨fun i _ => i < z.cps.size, fun i H v H' => ∃ T c, v = .ref T ∧ H T = none ∧ z.cps[i]? = some c ∧ H' = upd H T (.tup [.int (i : Nat), .str ⟨#[c]⟩]), fun i _ => z.cps.size = i⟩
theorem turn_enumS {P : Program} {w : World} {K : PySem.W.Frag} {elts : List Expr} {kk : Nat} {tpos : Pos} {z : Str} {t : Tok} {e it : Addr} :
    Turn P w K (.Tuple elts kk tpos) (IteS z) [e, it] e (fun i h => (∃ old, IsEnum h e it ((i : Nat) : Int) old) ∧ h.IsStrIter it (strIterType z) z t i ∧ e ≠ it) where
  mem := by simp
  obj := fun i h st b hb => by
    obtain ⟨⟨old, he⟩, ⟨o, ho, hc, hd⟩, _⟩ := st
    have e' : b = e ∨ b = it := by simpa using hb
    rcases e' with z | z
    · rw [z]; exact ⟨_, he, fun v q => nomatch q⟩
    · rw [z]; exact ⟨o, ho, fun v q => by rw [hd] at q; cases q⟩
  keep := fun i h h' st k => let ⟨⟨old, he⟩, ⟨o, ho, r⟩, hne⟩ := st; ⟨⟨old, k e (by simp) _ he⟩, ⟨o, k it (by simp) o ho, r⟩, hne⟩
  item := by
    intro X hP hw hK hc i pins s σ H E I hf st hg
    subst hP hw hK
    obtain ⟨⟨old, he⟩, hit, hne⟩ := st
    have hel : e < s.heap.objs.size := Heap.lt_size he
    have hil : it < s.heap.objs.size := by obtain ⟨_, q, _⟩ := hit; exact Heap.lt_size q
    have D := Draws.text (prog := X.prog) (w := X.w) (A := X.A.in1) (I.ok.hd hc) it z t
    refine wpAny_pyNext_enum_itemD D he hit hg hne (by simp [hne]) fun y h' tk hy ho hst' hT hsz hk => ?_
    obtain ⟨c, u, hc1, hc2⟩ := hy
    subst hc2
    refine ⟨_, rfl, wpAny_letOwnedTupleGo_enum (s := { s with heap := h', toks := tk + 1 }) ho fun h'' he' sb => ?_⟩
    have hT2 : h''.get? s.heap.objs.size = some { cls := .type "tuple", data := .seq #[.int i tk, .str ⟨#[c]⟩ u] } := (sb.2 _ (Nat.ne_of_gt hel)).trans hT
    have new : ObjOk X.prog X.w (upd H s.heap.objs.size (.tup [.int (i : Nat), .str ⟨#[c]⟩])) h'' s.heap.objs.size (.tup [.int (i : Nat), .str ⟨#[c]⟩]) :=
      ⟨by show 2 ≤ sizeLine; decide, [.int i tk, .str ⟨#[c]⟩ u], .cons ⟨_, rfl⟩ (.cons ⟨_, rfl⟩ .nil), ⟨_, hT2, rfl, _, rfl⟩⟩
    have I1 : Inv X pins σ (upd H s.heap.objs.size (.tup [.int (i : Nat), .str ⟨#[c]⟩])) { s with heap := h'', toks := tk + 1 } :=
      I.turnedNew (ch := [e, it]) (fun b ob hb q => (sb.2 b (fun z => hb (by simp [z]))).trans (hk b ob (fun z => hb (by simp [z])) (fun z => hb (by simp [z])) q)) hf (Nat.le_refl _) new
    refine ⟨.ref s.heap.objs.size, _, I1, rfl, ⟨_, c, rfl, I.hok.fresh (Nat.le_refl _), hc1, rfl⟩, ⟨⟨.str ⟨#[c]⟩ u, ?_⟩, ?_, hne⟩, fun b hb => ?_⟩
    · have e1 : ((i + 1 : Nat) : Int) = (i : Int) + 1 := by omega
      rw [e1]; exact he'
    · obtain ⟨o, ho2, r⟩ := hst'
      exact ⟨o, (sb.2 it (Ne.symm hne)).trans ho2, r⟩
    · have hb' : b < s.heap.objs.size := by
        have e' : b = e ∨ b = it := by simpa using hb
        rcases e' with z | z
        · rw [z]; exact hel
        · rw [z]; exact hil
      rw [upd_ne (Nat.ne_of_lt hb')]
      exact (hf b hb).1
  done := by
    intro X hP hw hK hc i pins s σ H E I hf st hg
    subst hP hw hK
    obtain ⟨⟨old, he⟩, hit, hne⟩ := st
    obtain ⟨f0, f1, f2, f3, f4, f5⟩ := hf it (by simp)
    have D := Draws.text (prog := X.prog) (w := X.w) (A := X.A.in1) (I.ok.hd hc) it z t
    have hg' : z.cps.size = i := hg
    exact wpAny_pyNext_enum_endD D he (by rw [hg']; exact hit) fun h' eb => ⟨rfl, I.turned (t' := s.toks) (fun b o hb q => eb b o hb q) f0 f1 f3 f4 f5⟩
  self := fun A i s Q E st h => let ⟨⟨_, he⟩, _⟩ := st; wpAny_pyIter_enum he h
def iEnumS (ta : TA) : TI := fun σ H R => ta σ H fun vs H1 => ∃ z, vs = [.str z] ∧ R (IteS z) H1
theorem pi_enumS {X : Cx} {e : Expr} {ta : TA} {p pos tpos : Pos} {elts : List Expr} {kk : Nat} (hg : Gl X "enumerate") (hm : X.mg "enumerate" = none) (ha : PA X [e] ta) (hs : starEach [e] X.env = [(false, eval e X.env)] := by rfl) :
    PI X (.Tuple elts kk tpos) (.Call (.Name "enumerate" p) [e] [] pos) (iEnumS ta) := by
  refine ⟨fun pins s σ H R I h => ?_⟩
  refine Call_ (ld_blt I hg hm boot_enumerate (PyProof.Rows.callWith_type1 (thn (ha.run pos pins s σ H _ I h) fun us s1 ⟨vs, H1, I1, r1, q1⟩ => ?_) hs rfl))
  obtain ⟨z, ex, q⟩ := q1
  subst ex
  cases r1 with
  | cons r rr =>
    cases rr
    obtain ⟨t, rfl⟩ := r
    refine call_enumerate_str fun h' he hit hsz hk => wpAny_pyIter_enum he ?_
    have I2 : Inv X pins σ H1 { s1 with heap := h' } := I1.kept (t' := s1.toks) hk
    refine ⟨s1.heap.objs.size + 1, [s1.heap.objs.size + 1, s1.heap.objs.size], _, _, H1, rfl, I2, turn_enumS (z := z) (t := t) (e := s1.heap.objs.size + 1) (it := s1.heap.objs.size), ⟨⟨.none, he⟩, hit, Nat.succ_ne_self _⟩, fun b hb => ?_, q⟩
    have e' : b = s1.heap.objs.size + 1 ∨ b = s1.heap.objs.size := by simpa using hb
    have hle : s1.heap.objs.size ≤ b := by
      rcases e' with z | z
      · rw [z]; exact Nat.le_add_right _ _
      · rw [z]; exact Nat.le_refl _
    exact I1.fpOk hle (I1.hok.fresh hle)
theorem walk_enumS {z : Str} : Walk (IteS z) z.cps.size (fun _ => True) (YPair (fun i => some (.int (i : Nat))) (fun i => (z.cps[i]?).map fun c => V.str ⟨#[c]⟩)) := by
  refine ⟨fun i _ hi _ => hi, fun _ _ => rfl, fun i H v H' _ _ y => ?_⟩
  obtain ⟨T, c, h1, h2, h3, h4⟩ := y
  exact ⟨T, .int (i : Nat), .str ⟨#[c]⟩, h1, h2, h4, rfl, by show (z.cps[i]?).map _ = _; rw [h3]; rfl⟩
/-! ### enumerate of lists, tuples, texts; zip of lists, of tuples: by values -/
def wEnumA (f : XD) : XL := fun ρ μ => (f ρ μ).bind fun d μ' => match d with
  | .lst xs => .ok (enumD xs) μ'
  | .tup xs => .ok (enumD xs) μ'
  | .str z => .ok (enumD (strD z)) μ'
  | _ => .fail
section
variable {X : Cx} {cl : Nat → Addr} {W : WX} {tg e e2 : Expr} {f : XD} {fs : XL} {p pos tpos : Pos} {elts : List Expr} {kk : Nat}
theorem enumD_len (xs : List D) : (enumD xs).length = xs.length := by unfold enumD; rw [List.length_mapIdx]
theorem enumD_get {xs : List D} {i : Nat} {d : D} (h : xs[i]? = some d) : (enumD xs)[i]? = some (.tup [.int (i : Nat), d]) := by
  unfold enumD
  rw [List.getElem?_mapIdx, h]
  rfl
theorem jEnumA (h : PE X e (tE X.K cl W f)) (hg : Gl X "enumerate") (hm : X.mg "enumerate" = none) (hs : starEach [e] X.env = (false, eval e X.env) :: starEach [] X.env := by rfl) (hs' : starEach [e] X.env = [(false, eval e X.env)] := by rfl) :
    PI X (.Tuple elts kk tpos) (.Call (.Name "enumerate" p) [e] [] pos) (tI X.K cl W (wEnumA f)) := by
  have ha := aCons h (aNil (cl := cl) (W := W)) hs
  refine pi_imp (pi_or (pi_enum hg hm ha hs') (pi_or (pi_enumT hg hm ha hs') (pi_enumS hg hm ha hs'))) fun σ H R => ?_
  rintro ⟨c, os, ρ, μ, r, h⟩
  have h' := Out.bind h
  have one : ∀ d μ1, f ρ μ = .ok d μ1 → lCons f lNil ρ μ = .ok [d] μ1 := fun d μ1 e => by
    unfold lCons
    rw [e]
    rfl
  cases ef : f ρ μ with
  | fail => rw [ef] at h'; exact h'.elim
  | exc x μ1 =>
    rw [ef] at h'
    refine .inl ⟨c, os, ρ, μ, r, ?_⟩
    unfold lCons
    rw [ef]
    exact h'
  | ok d μ1 =>
    rw [ef] at h'
    cases d with
    | lst es =>
      refine .inl ⟨c, os, ρ, μ, r, ?_⟩
      rw [one _ _ ef]
      intro vs H1 r1 k pv
      obtain ⟨v, z, pu⟩ := pv.one
      subst z
      obtain ⟨a, us, rfl, g1, g2⟩ := pu.inv_lst
      refine ⟨a, us, rfl, .inl (.inl (vw_le _ _ g1)), h' _ H1 r1 k ⟨fun H => SqL X.K H a us, fun H2 e => .inl (.inl (e _ _ g1)), ?_⟩⟩
      rw [show (enumD es).length = us.length by rw [enumD_len, g2.length]]
      refine walk_enum.mono (fun _ h => h) fun i H x H' _ _ y => ?_
      obtain ⟨q, x, y, h1, h2, h3, h4, h5⟩ := y
      obtain ⟨d, e1, e2⟩ := g2.getV h5
      cases h4
      exact ⟨.tup [.int (i : Nat), d], enumD_get e1, .inr ⟨q, _, y, _, d, h1, h2, h3, rfl, .int _, e2⟩⟩
    | tup es =>
      refine .inr (.inl ⟨c, os, ρ, μ, r, ?_⟩)
      rw [one _ _ ef]
      intro vs H1 r1 k pv
      obtain ⟨v, z, pu⟩ := pv.one
      subst z
      obtain ⟨a, us, rfl, g1, g2⟩ := pu.inv_tup
      refine ⟨a, us, rfl, vw_le.sqT g1, h' _ H1 r1 k ⟨fun H => SqT X.K H a us, fun H2 e => e.sqT g1, ?_⟩⟩
      rw [show (enumD es).length = us.length by rw [enumD_len, g2.length]]
      refine walk_enumT.mono (fun _ h => h) fun i H x H' _ _ y => ?_
      obtain ⟨q, x, y, h1, h2, h3, h4, h5⟩ := y
      obtain ⟨d, e1, e2⟩ := g2.getV h5
      cases h4
      exact ⟨.tup [.int (i : Nat), d], enumD_get e1, .inr ⟨q, _, y, _, d, h1, h2, h3, rfl, .int _, e2⟩⟩
    | str z =>
      refine .inr (.inr ⟨c, os, ρ, μ, r, ?_⟩)
      rw [one _ _ ef]
      intro vs H1 r1 k pv
      obtain ⟨v, zz, pu⟩ := pv.one
      subst zz
      obtain ⟨e1, e2⟩ := pu.inv_str
      subst e1
      refine ⟨z, rfl, h' _ H1 r1 k ⟨fun _ => True, fun _ _ => trivial, ?_⟩⟩
      rw [show (enumD (strD z)).length = z.cps.size by rw [enumD_len]; unfold strD; rw [List.length_map, Array.length_toList]]
      refine walk_enumS.mono (fun _ h => h) fun i H x H' _ _ y => ?_
      obtain ⟨q, x, y, h1, h2, h3, h4, h5⟩ := y
      obtain ⟨ch, e3, e4⟩ := Option.map_eq_some_iff.mp h5
      cases h4
      subst e4
      refine ⟨.tup [.int (i : Nat), .str ⟨#[ch]⟩], enumD_get ?_, .inr ⟨q, _, _, _, .str ⟨#[ch]⟩, h1, h2, h3, rfl, .int _, .str ?_⟩⟩
      · unfold strD
        rw [List.getElem?_map, Array.getElem?_toList, e3]
        rfl
      · rw [strOk_iff] at e2
        have := List.all_eq_true.mp e2 ch (by
          have : z.cps.toList[i]? = some ch := by rw [Array.getElem?_toList, e3]
          exact List.mem_of_getElem? this)
        unfold strOk
        simpa using this
    | _ => exact h'.elim
def wZipA (fs : XL) : XL := fun ρ μ => (fs ρ μ).bind fun ds μ' => match ds with
  | [.lst xs, .lst ys] => .ok (List.zipWith pairD xs ys) μ'
  | [.tup xs, .tup ys] => .ok (List.zipWith pairD xs ys) μ'
  | _ => .fail
theorem walk_zipT {K : PySem.W.Frag} {a b : Addr} {xs ys : List V} {n : Nat} (hn : n = min xs.length ys.length) : Walk (RZ.ItzT K a b) n (fun H => SqT K H a xs ∧ SqT K H b ys) (YPair (fun i => xs[i]?) (fun i => ys[i]?)) := by
  subst hn
  refine ⟨fun i _ hi q => ?_, fun _ q => ⟨xs, ys, q.1, q.2, by omega⟩, fun i H v H' _ q y => ?_⟩
  · have h1 : i < xs.length := by omega
    have h2 : i < ys.length := by omega
    exact ⟨xs, ys, xs[i], ys[i], q.1, q.2, by simp [h1], by simp [h2]⟩
  · obtain ⟨T, x, z, h1, h2, h3, h4, h5⟩ := y
    exact ⟨T, x, z, h1, h2, h3, h4 xs q.1, h5 ys q.2⟩
theorem jZipA (h : PI X tg e (RZ.iZipA X.K (tL X.K cl W fs))) : PI X tg e (tI X.K cl W (wZipA fs)) := pi_imp h fun σ H R => by
  rintro ⟨c, os, ρ, μ, r, h⟩
  refine ⟨c, os, ρ, μ, r, (Out.bind h).imp (fun ds μ1 h1 => ?_) fun _ _ q => q⟩
  intro vs H1 r1 k pv
  split at h1
  · rename_i xs ys
    obtain ⟨v, w, z, pu, pw⟩ := pv.two
    subst z
    obtain ⟨a, us, rfl, g1, g2⟩ := pu.inv_lst
    obtain ⟨b, ws, rfl, g3, g4⟩ := pw.inv_lst
    refine ⟨a, b, us, ws, rfl, .inl ⟨.inl (.inl (vw_le _ _ g1)), .inl (.inl (vw_le _ _ g3)), h1 _ H1 r1 k ⟨fun H => SqL X.K H a us ∧ SqL X.K H b ws, fun H2 e => ⟨.inl (.inl (e _ _ g1)), .inl (.inl (e _ _ g3))⟩, ?_⟩⟩⟩
    exact (walk_zip (by rw [List.length_zipWith, g2.length, g4.length])).mono (fun _ h => h) fun i H x H' _ _ y => pair_get g2 g4 i H x H' y
  · rename_i xs ys
    obtain ⟨v, w, z, pu, pw⟩ := pv.two
    subst z
    obtain ⟨a, us, rfl, g1, g2⟩ := pu.inv_tup
    obtain ⟨b, ws, rfl, g3, g4⟩ := pw.inv_tup
    refine ⟨a, b, us, ws, rfl, .inr ⟨vw_le.sqT g1, vw_le.sqT g3, h1 _ H1 r1 k ⟨fun H => SqT X.K H a us ∧ SqT X.K H b ws, fun H2 e => ⟨e.sqT g1, e.sqT g3⟩, ?_⟩⟩⟩
    exact (walk_zipT (by rw [List.length_zipWith, g2.length, g4.length])).mono (fun _ h => h) fun i H x H' _ _ y => pair_get g2 g4 i H x H' y
  · exact h1.elim
end
end DC
set_option Elab.async false
set_option linter.all false
set_option maxRecDepth 100000
set_option maxHeartbeats 4000000
/-! DC: dicts; comprehensions with a name. -/
namespace DC
open PySem PySem.Spec PyProof.Rows L2
section
variable {K : PySem.W.Frag} {c : Ct} {os : List (Option Addr)} {ρ : Env} {μ : Store} {σ : L2.St} {H H' : Hp} {a : Addr} {Q : VK}
theorem Rl.tupSeen (r : Rl K c os ρ μ σ H) {b : Addr} {xs : List V} (h : H b = some (.tup xs)) : vw c os H b = some (.tup xs) := by
  refine vw_some.mpr ⟨h, fun z => ?_, fun z => ?_, fun z => ?_⟩
  · obtain ⟨o, e, n⟩ := r.dom b z
    rw [h] at e; cases e
    exact n xs rfl
  · obtain ⟨i, hi⟩ := List.getElem?_of_mem z
    have hlt : i < c.T.length := (List.getElem?_eq_some_iff.mp hi).1
    have h1 : i < μ.length := by rw [r.sm]; exact hlt
    have := r.st i b _ hi (List.getElem?_eq_getElem h1)
    rw [h] at this; cases this
  · obtain ⟨o, e, n⟩ := r.ownSomeN z
    rw [h] at e; cases e
    exact n xs rfl
/-! ### look up, put -/
def lookD {κ : Type} [DecidableEq κ] : List κ → List D → κ → Option D
  | k :: ks, v :: vs, j => if k = j then some v else lookD ks vs j
  | _, _, _ => none
def putVs {κ : Type} [DecidableEq κ] : List κ → List D → κ → D → List D
  | k :: ks, v :: vs, j, d => if k = j then d :: putVs ks vs j d else v :: putVs ks vs j d
  | _, vs, _, _ => vs
def putD {κ : Type} [DecidableEq κ] (ks : List κ) (vs : List D) (j : κ) (d : D) : List κ × List D := if j ∈ ks then (ks, putVs ks vs j d) else (ks ++ [j], vs ++ [d])
section
variable {κ : Type} [DecidableEq κ] {T : List Addr}
theorem look_ok : ∀ {kvs : List (κ × V)} {ks : List κ} {ds : List D} {k : κ}, kvs.map Prod.fst = ks → RpA K T H (kvs.map Prod.snd) ds → match lookD ks ds k with
    | some d => ∃ v, valV kvs k = some v ∧ Rp K T H v d
    | none => valV kvs k = none
  | [], _, _, k, rfl, r => by
    cases r
    show valV [] k = none
    rfl
  | (k0, v0) :: kvs, _, _, k, rfl, r => by
    cases r with
    | @cons _ _ d ds q r =>
      show match (if k0 = k then some d else lookD (kvs.map Prod.fst) ds k) with
        | some d => ∃ v, valV ((k0, v0) :: kvs) k = some v ∧ Rp K T H v d
        | none => valV ((k0, v0) :: kvs) k = none
      by_cases e : k0 = k
      · rw [if_pos e]
        exact ⟨v0, valV_pos (p := (k0, v0)) e, q⟩
      · rw [if_neg e, valV_neg (p := (k0, v0)) e]
        exact look_ok rfl r
theorem putVs_ok {k : κ} {v : V} {d : D} (p : Rp K T H v d) : ∀ {kvs : List (κ × V)} {ds : List D}, RpA K T H (kvs.map Prod.snd) ds → RpA K T H ((kvs.map fun kv => if kv.1 = k then (kv.1, v) else kv).map Prod.snd) (putVs (kvs.map Prod.fst) ds k d)
  | [], _, r => by cases r; exact .nil
  | (k0, v0) :: kvs, _, r => by
    cases r with
    | @cons _ _ d0 ds q r =>
      show RpA K T H ((if k0 = k then (k0, v) else (k0, v0)).2 :: _) (if k0 = k then d :: putVs (kvs.map Prod.fst) ds k d else d0 :: putVs (kvs.map Prod.fst) ds k d)
      by_cases e : k0 = k
      · rw [if_pos e, if_pos e]; exact .cons p (putVs_ok p r)
      · rw [if_neg e, if_neg e]; exact .cons q (putVs_ok p r)
theorem put_ok {k : κ} {v : V} {d : D} (p : Rp K T H v d) {kvs : List (κ × V)} {ks : List κ} {ds : List D} (e : kvs.map Prod.fst = ks) (r : RpA K T H (kvs.map Prod.snd) ds) :
    (putK kvs k v).map Prod.fst = (putD ks ds k d).1 ∧ RpA K T H ((putK kvs k v).map Prod.snd) (putD ks ds k d).2 := by
  subst e
  have ea : (kvs.any fun kv => decide (kv.1 = k)) = true ↔ k ∈ kvs.map Prod.fst := by
    rw [List.any_eq_true, List.mem_map]
    constructor
    · rintro ⟨x, hx, e⟩
      exact ⟨x, hx, of_decide_eq_true e⟩
    · rintro ⟨x, hx, e⟩
      exact ⟨x, hx, decide_eq_true e⟩
  unfold putK putD
  by_cases h : k ∈ kvs.map Prod.fst
  · rw [if_pos h, if_pos (ea.mpr h)]
    refine ⟨?_, putVs_ok p r⟩
    rw [List.map_map]
    apply List.map_congr_left
    intro x _
    show (if x.1 = k then (x.1, v) else x).1 = x.1
    split <;> rfl
  · rw [if_neg h, if_neg fun z => h (ea.mp z)]
    rw [List.map_append, List.map_append]
    exact ⟨rfl, r.append (.cons p .nil)⟩
end
def D.key : D → Option Key
  | .int i => some (.inl i)
  | .str x => some (.inr x)
  | _ => none
def D.keys : List D → Option (List Key)
  | [] => some []
  | d :: ds => (D.key d).bind fun k => (D.keys ds).map (k :: ·)
theorem key_ok {T : List Addr} {v : V} {d : D} {k : Key} (p : Rp K T H v d) (e : d.key = some k) : v = kV k := by
  cases d with
  | int i => cases e; exact p.inv_int
  | str x => cases e; exact p.inv_str.1
  | _ => cases e
theorem keys_ok {T : List Addr} : ∀ {ds : List D} {vs : List V} {ks : List Key}, RpA K T H vs ds → D.keys ds = some ks → vs = ks.map kV
  | [], _, _, r, e => by cases r; cases e; rfl
  | d :: ds, _, ks, r, e => by
    cases r with
    | cons q r =>
      obtain ⟨k, e1, e2⟩ := Option.bind_eq_some_iff.mp (show (D.key d).bind (fun k => (D.keys ds).map (k :: ·)) = some ks from e)
      obtain ⟨ks', e3, e4⟩ := Option.map_eq_some_iff.mp e2
      subst e4
      rw [key_ok q e1, keys_ok r e3]
      rfl
end
/-! ### {} and {k: v} -/
def xNewK : XD := fun _ μ => .ok (.dk [] []) μ
def xNewT : XD := fun _ μ => .ok (.dt [] []) μ
section
variable {K : PySem.W.Frag} {c : Ct} {os : List (Option Addr)} {ρ : Env} {μ : Store} {σ : L2.St} {H H' : Hp} {a : Addr} {Q : VK}
theorem Rl.frK (r : Rl K c os ρ μ σ H) {kvs : List (Key × V)} {ks : List Key} {ds : List D} (e : kvs.map Prod.fst = ks) (p : RpA K c.T (vw c os H) (kvs.map Prod.snd) ds) (n : H a = none) : Fr K c os ρ μ σ (upd H a (.dK kvs)) a (.dk ks ds) ∧ Kp c H (upd H a (.dK kvs)) := by
  obtain ⟨h1, h2, h3, h4⟩ := r.fresh n
  obtain ⟨q, x⟩ := r.av (o := .dK kvs) n
  exact ⟨⟨q, .dk upd_same e (p.mono x), h1, h2, h3, h4⟩, Kp.new n⟩
theorem Rl.frT (r : Rl K c os ρ μ σ H) {kvs : List (List Key × V)} {ks : List (List Key)} {ds : List D} (e : kvs.map Prod.fst = ks) (p : RpA K c.T (vw c os H) (kvs.map Prod.snd) ds) (n : H a = none) : Fr K c os ρ μ σ (upd H a (.dT kvs)) a (.dt ks ds) ∧ Kp c H (upd H a (.dT kvs)) := by
  obtain ⟨h1, h2, h3, h4⟩ := r.fresh n
  obtain ⟨q, x⟩ := r.av (o := .dT kvs) n
  exact ⟨⟨q, .dt upd_same e (p.mono x), h1, h2, h3, h4⟩, Kp.new n⟩
end
/-- {k: v}, k and v that read or change nothing new -/
def xDisp1 (k : Key) (d : D) : XD := fun _ μ => .ok (.dk [k] [d]) μ
section
variable {X : Cx} {cl : Nat → Addr} {W : WX} {fr : Bool} {pos pos' : Pos} {f fk fx fe : XD} {fs : XL} {o i e : Expr}
theorem dNewK : PE X (.Dict [] [] pos) (tF X.K cl W xNewK) := pe_imp pe_dnewK fun σ H Q => by
  rintro ⟨c, os, ρ, μ, r, h⟩
  intro p n
  obtain ⟨f, k⟩ := r.frK (kvs := []) rfl .nil n
  exact h p _ f k n
theorem dNewT : PE X (.Dict [] [] pos) (tF X.K cl W xNewT) := pe_imp pe_dnewT fun σ H Q => by
  rintro ⟨c, os, ρ, μ, r, h⟩
  intro p n
  obtain ⟨f, k⟩ := r.frT (kvs := []) rfl .nil n
  exact h p _ f k n
theorem dDisp1 {k : Key} {v : V} {d : D} (hk : PE X i (tC (kV k))) (hv : PE X e (tC v)) (hp : ∀ T Hv, Rp X.K T Hv v d) : PE X (.Dict [some i] [e] pos) (tF X.K cl W (xDisp1 k d)) :=
  pe_imp (pe_disp (pps_cons hk hv pps_nil) rfl rfl (by simp) (by simp)) fun σ H Q => by
  rintro ⟨c, os, ρ, μ, r, h⟩
  intro p n
  refine ⟨upd_same, [(k, v)], rfl, by simp, ?_⟩
  obtain ⟨f, kp⟩ := r.frK (kvs := [(k, v)]) rfl (.cons (hp _ _) .nil) n
  have e : upd (upd H p (.dK [])) p (.dK (mergeK [] [(k, v)])) = upd H p (.dK [(k, v)]) := by
    funext b
    by_cases hb : b = p
    · subst hb; rw [upd_same, upd_same]; rfl
    · rw [upd_ne hb, upd_ne hb, upd_ne hb]
  rw [e]
  exact h p _ f kp n
/-! ### d[k], d.get(k, x) -/
def getK (a b : D) : Option D := match a with
  | .dk ks vs => (D.key b).bind fun k => lookD ks vs k
  | _ => none
def get2K (a b x : D) : Option D := match a with
  | .dk ks vs => (D.key b).bind fun k => some ((lookD ks vs k).getD x)
  | _ => none
def xGetK (f fk : XD) : XD := fun ρ μ => (f ρ μ).bind fun a μ1 => (fk ρ μ1).bind fun b μ2 => Res.ofO (getK a b) μ2
def xGet2K (f fk fx : XD) : XD := fun ρ μ => (f ρ μ).bind fun a μ1 => match a with
  | .dk _ _ => (fk ρ μ1).bind fun b μ2 => (fx ρ μ2).bind fun x μ3 => Res.ofO (get2K a b x) μ3
  | _ => .fail
/-- the key is a tuple that is made there -/
def getT (a : D) (bs : List D) : Option D := match a with
  | .dt ks vs => (D.keys bs).bind fun k => lookD ks vs k
  | _ => none
def get2T (a : D) (bs : List D) (x : D) : Option D := match a with
  | .dt ks vs => (D.keys bs).bind fun k => some ((lookD ks vs k).getD x)
  | _ => none
def xGetT (f : XD) (fs : XL) : XD := fun ρ μ => (f ρ μ).bind fun a μ1 => (fs ρ μ1).bind fun bs μ2 => if lenOk bs then Res.ofO (getT a bs) μ2 else .fail
def xGet2T (f : XD) (fs : XL) (fx : XD) : XD := fun ρ μ => (f ρ μ).bind fun a μ1 => match a with
  | .dt _ _ => (fs ρ μ1).bind fun bs μ2 => if lenOk bs then (fx ρ μ2).bind fun x μ3 => Res.ofO (get2T a bs x) μ3 else .fail
  | _ => .fail
theorem dGetK (hu : X.A.units + 1 < cLine) (ho : PE X o (tE X.K cl W f)) (hi : PE X i (tE X.K cl W fk)) (hs : NoSl i := by intro _ _; rfl) : PE X (.Subscript o i pos) (tE X.K cl W (xGetK f fk)) := pe_imp (pe_dget hu ho hi hs) fun σ H Q => by
  rintro ⟨c, os, ρ, μ, r, h⟩
  refine ⟨c, os, ρ, μ, r, (Out.bind h).imp (fun d1 μ1 h1 => ?_) fun _ _ q => q⟩
  intro v1 H1 r1 e1 p1
  refine ⟨c, os, ρ, μ1, r1, (Out.bind h1).imp (fun d2 μ2 h2 => ?_) fun _ _ q => q.mono e1⟩
  intro v2 H2 r2 e2 p2
  obtain ⟨d, e, h3⟩ := Out.ofO h2
  unfold getK at e
  split at e
  · rename_i ks vs
    obtain ⟨k, e3, e4⟩ := Option.bind_eq_some_iff.mp e
    obtain ⟨a, kvs, z, g1, g2, g3⟩ := (p1.mono e2.vw).inv_dk
    subst z
    have q := look_ok (k := k) g2 g3
    rw [e4] at q
    obtain ⟨v, q1, q2⟩ := q
    refine ⟨a, v, rfl, .inl ⟨kvs, k, vw_le.rd g1, key_ok p2 e3, q1.symm⟩, VOk.same (VOk.mono (e1.trans e2) h3) r2 q2⟩
  · cases e
theorem dGet2K {apos cpos : Pos} (hu : X.A.units + 1 < cLine) (ho : PE X o (tE X.K cl W f)) (hi : PE X i (tE X.K cl W fk)) (hx : PE X e (tE X.K cl W fx)) (m : M2 X o "get" apos i e cpos) : PE X (.Call (.Attribute o "get" apos) [i, e] [] cpos) (tE X.K cl W (xGet2K f fk fx)) := pe_imp (pe_dget2 hu ho hi hx m) fun σ H Q => by
  rintro ⟨c, os, ρ, μ, r, h⟩
  refine ⟨c, os, ρ, μ, r, (Out.bind h).imp (fun d1 μ1 h1 => ?_) fun _ _ q => q⟩
  intro v1 H1 r1 e1 p1
  split at h1
  · rename_i ks vs
    obtain ⟨a, kvs, z, g1, g2, g3⟩ := p1.inv_dk
    subst z
    refine ⟨a, rfl, .inl ⟨kvs, vw_le.rd g1⟩, c, os, ρ, μ1, r1, (Out.bind h1).imp (fun d2 μ2 h2 => ?_) fun _ _ q => q.mono e1⟩
    intro v2 H2 r2 e2 p2
    refine ⟨c, os, ρ, μ2, r2, (Out.bind h2).imp (fun d3 μ3 h3 => ?_) fun _ _ q => q.mono (e1.trans e2)⟩
    intro v3 H3 r3 e3 p3
    obtain ⟨d, e, h4⟩ := Out.ofO h3
    have g1' := e3.vw.rd (e2.vw.rd g1)
    have g3' := (g3.mono e2.vw).mono e3.vw
    have q4 := VOk.mono ((e1.trans e2).trans e3) h4
    obtain ⟨k, e5, e6⟩ := Option.bind_eq_some_iff.mp (show (D.key d2).bind (fun k => some ((lookD ks vs k).getD d3)) = some d from e)
    cases e6
    have q := look_ok (k := k) g2 g3'
    refine ⟨valV kvs k, .inl ⟨kvs, k, vw_le.rd g1', key_ok p2 e5, rfl⟩, ?_⟩
    cases el : lookD ks vs k with
    | some dd =>
      rw [el] at q q4
      obtain ⟨v, q1, q2⟩ := q
      rw [q1]
      exact VOk.same q4 r3 q2
    | none =>
      rw [el] at q q4
      have q' : valV kvs k = none := q
      rw [q']
      exact VOk.same q4 r3 p3
  · exact h1.elim
/-- a tuple made as a key -/
def tKey (K : PySem.W.Frag) (cl : Nat → Addr) (W : WX) (fs : XL) : TE := fun σ H Q => ∃ c os ρ μ, Rl K c os ρ μ σ H ∧ Out (fs ρ μ) (fun ds μ' => lenOk ds = true ∧ ∀ b vs H', Rl K c os ρ μ' σ H' → Kp c H H' → H' b = some (.tup vs) → RpA K c.T (vw c os H') vs ds → Q (.ref b) H') (EOk K cl W c os ρ σ H)
theorem dKey {es : List Expr} {x1 : Nat} (h : PA X es (tL X.K cl W fs)) : PE X (.Tuple es x1 pos) (tKey X.K cl W fs) := pe_imp (pe_tup h) fun σ H Q => by
  rintro ⟨c, os, ρ, μ, r, h⟩
  refine ⟨c, os, ρ, μ, r, h.imp (fun ds μ1 h1 => ?_) fun _ _ q => q⟩
  intro vs H1 r1 e1 p1
  refine ⟨by rw [p1.length]; exact lenOk_le h1.1, fun p n => ?_⟩
  exact h1.2 p vs _ (r1.new n) (e1.trans (Kp.new n)) upd_same (p1.mono (r1.newX n))
theorem dGetT {es : List Expr} {x1 : Nat} {p2 : Pos} (hu : X.A.units + 1 < cLine) (ho : PE X o (tE X.K cl W f)) (hi : PA X es (tL X.K cl W fs)) (hs : NoSl (.Tuple es x1 p2) := by intro _ _; rfl) : PE X (.Subscript o (.Tuple es x1 p2) pos) (tE X.K cl W (xGetT f fs)) := pe_imp (pe_dget hu ho (dKey hi) hs) fun σ H Q => by
  rintro ⟨c, os, ρ, μ, r, h⟩
  refine ⟨c, os, ρ, μ, r, (Out.bind h).imp (fun d1 μ1 h1 => ?_) fun _ _ q => q⟩
  intro v1 H1 r1 e1 p1
  refine ⟨c, os, ρ, μ1, r1, (Out.bind h1).imp (fun ds μ2 h2 => ?_) fun _ _ q => q.mono e1⟩
  by_cases hl : lenOk ds = true
  · rw [if_pos hl] at h2
    obtain ⟨d, e, h3⟩ := Out.ofO h2
    refine ⟨hl, fun b vs H2 r2 e2 hb p2 => ?_⟩
    unfold getT at e
    split at e
    · rename_i ks us
      obtain ⟨k, e3, e4⟩ := Option.bind_eq_some_iff.mp e
      obtain ⟨a, kvs, z, g1, g2, g3⟩ := (p1.mono e2.vw).inv_dt
      subst z
      have q := look_ok (k := k) g2 g3
      rw [e4] at q
      obtain ⟨v, q1, q2⟩ := q
      refine ⟨a, v, rfl, .inr ⟨kvs, k, b, vw_le.rd g1, rfl, by rw [hb, keys_ok p2 e3], q1.symm⟩, VOk.same (VOk.mono (e1.trans e2) h3) r2 q2⟩
    · cases e
  · rw [if_neg hl] at h2
    exact h2.elim
theorem dGet2T {apos cpos p2 : Pos} {es : List Expr} {x1 : Nat} (hu : X.A.units + 1 < cLine) (ho : PE X o (tE X.K cl W f)) (hi : PA X es (tL X.K cl W fs)) (hx : PE X e (tE X.K cl W fx)) (m : M2 X o "get" apos (.Tuple es x1 p2) e cpos) : PE X (.Call (.Attribute o "get" apos) [.Tuple es x1 p2, e] [] cpos) (tE X.K cl W (xGet2T f fs fx)) := pe_imp (pe_dget2 hu ho (dKey hi) hx m) fun σ H Q => by
  rintro ⟨c, os, ρ, μ, r, h⟩
  refine ⟨c, os, ρ, μ, r, (Out.bind h).imp (fun d1 μ1 h1 => ?_) fun _ _ q => q⟩
  intro v1 H1 r1 e1 p1
  split at h1
  · rename_i ks vs
    obtain ⟨a, kvs, z, g1, g2, g3⟩ := p1.inv_dt
    subst z
    refine ⟨a, rfl, .inr ⟨kvs, vw_le.rd g1⟩, c, os, ρ, μ1, r1, (Out.bind h1).imp (fun ds μ2 h2 => ?_) fun _ _ q => q.mono e1⟩
    by_cases hl : lenOk ds = true
    · rw [if_pos hl] at h2
      refine ⟨hl, fun b us H2 r2 e2 hb p2 => ?_⟩
      refine ⟨c, os, ρ, μ2, r2, (Out.bind h2).imp (fun d3 μ3 h3 => ?_) fun _ _ q => q.mono (e1.trans e2)⟩
      intro v3 H3 r3 e3 p3
      obtain ⟨d, e, h4⟩ := Out.ofO h3
      have g1' := e3.vw.rd (e2.vw.rd g1)
      have g3' := (g3.mono e2.vw).mono e3.vw
      have q4 := VOk.mono ((e1.trans e2).trans e3) h4
      obtain ⟨k, e5, e6⟩ := Option.bind_eq_some_iff.mp (show (D.keys ds).bind (fun k => some ((lookD ks vs k).getD d3)) = some d from e)
      cases e6
      have q := look_ok (k := k) g2 g3'
      have hb3 : H3 b = some (.tup us) := vw_le _ _ (e3.vw _ _ (r2.tupSeen hb))
      refine ⟨valV kvs k, .inr ⟨kvs, k, b, vw_le.rd g1', rfl, by rw [hb3, keys_ok p2 e5], rfl⟩, ?_⟩
      cases el : lookD ks vs k with
      | some dd =>
        rw [el] at q q4
        obtain ⟨v, q1, q2⟩ := q
        rw [q1]
        exact VOk.same q4 r3 q2
      | none =>
        rw [el] at q q4
        have q' : valV kvs k = none := q
        rw [q']
        exact VOk.same q4 r3 p3
    · rw [if_neg hl] at h2
      exact h2.elim
  · exact h1.elim
/-! ### x[k] = e, x an own dict -/
def sPutK (i : Nat) (fk fe : XD) : SD := fun ρ μ => (fe ρ μ).st ρ fun d μ1 => match ρ[i]? with
  | some (.ow (.dk ks vs)) => (fk ρ μ1).st ρ fun k μ2 => match D.key k with
    | some k => if lenOk ks then .nx (ρ.set i (.ow (.dk (putD ks vs k d).1 (putD ks vs k d).2))) μ2 else .fail
    | none => .fail
  | _ => .fail
def sPutT (i : Nat) (fs : XL) (fe : XD) : SD := fun ρ μ => (fe ρ μ).st ρ fun d μ1 => match ρ[i]? with
  | some (.ow (.dt ks vs)) => (fs ρ μ1).st ρ fun bs μ2 => if lenOk bs then (match D.keys bs with
    | some k => if lenOk ks then .nx (ρ.set i (.ow (.dt (putD ks vs k d).1 (putD ks vs k d).2))) μ2 else .fail
    | none => .fail) else .fail
  | _ => .fail
theorem lenOk_lt {α : Type} {xs : List α} (h : lenOk xs = true) : xs.length < sizeLine := Nat.lt_of_le_of_lt (Nat.le_of_ble_eq_true h) (by rw [sizeLine_eq]; decide)
theorem hPutK {s0 : Stmt} {n : Nat} (h : PS X s0 (sDPut (tVar n) (tE X.K cl W fk) (tE X.K cl W fe))) : PS X s0 (tS X.K cl W fr (sPutK n fk fe)) := ps_imp h fun E σ H => by
  rintro ⟨c, os, ρ, μ, r, h⟩
  refine ⟨c, os, ρ, μ, r, (SOut.st h).imp (fun d μ1 h1 => ?_) fun _ _ q => q⟩
  intro v1 H1 r1 e1 p1
  split at h1
  · rename_i ks vs e0
    obtain ⟨a, g1, g2, g3⟩ := r1.getOw e0
    refine ⟨.ref a, g1, c, os, ρ, μ1, r1, (SOut.st h1).imp (fun kd μ2 h2 => ?_) fun _ _ q => q⟩
    intro v2 H2 r2 e2 p2
    split at h2
    · rename_i k ek
      by_cases hl : lenOk ks = true
      · rw [if_pos hl] at h2
        obtain ⟨a', k1, k2, k3⟩ := r2.getOw e0
        have ea : a' = a := by
          rw [g1] at k1
          have := Option.some.inj (Option.some.inj k1)
          cases this; rfl
        subst ea
        cases k3 with
        | @dk kvs _ _ q z kr =>
          have hlen : kvs.length < sizeLine := by
            have : kvs.length = ks.length := by rw [← z, List.length_map]
            rw [this]; exact lenOk_lt hl
          obtain ⟨w1, w2⟩ := put_ok (k := k) (p1.mono e2.vw) z kr
          exact ⟨a', _, rfl, .inl ⟨kvs, _, q, key_ok p2 ek, hlen, rfl⟩, h2 os σ _ (r2.change k1 k2 (.dk upd_same w1 w2))⟩
      · rw [if_neg hl] at h2
        exact h2.elim
    · exact h2.elim
  · exact h1.elim
theorem hPutT {s0 : Stmt} {n : Nat} (h : PS X s0 (sDPut (tVar n) (tKey X.K cl W fs) (tE X.K cl W fe))) : PS X s0 (tS X.K cl W fr (sPutT n fs fe)) := ps_imp h fun E σ H => by
  rintro ⟨c, os, ρ, μ, r, h⟩
  refine ⟨c, os, ρ, μ, r, (SOut.st h).imp (fun d μ1 h1 => ?_) fun _ _ q => q⟩
  intro v1 H1 r1 e1 p1
  split at h1
  · rename_i ks vs e0
    obtain ⟨a, g1, g2, g3⟩ := r1.getOw e0
    refine ⟨.ref a, g1, c, os, ρ, μ1, r1, (SOut.st h1).imp (fun bs μ2 h2 => ?_) fun _ _ q => q⟩
    by_cases hb : lenOk bs = true
    · rw [if_pos hb] at h2
      refine ⟨hb, fun b us H2 r2 e2 hu p2 => ?_⟩
      split at h2
      · rename_i k ek
        by_cases hl : lenOk ks = true
        · rw [if_pos hl] at h2
          obtain ⟨a', k1, k2, k3⟩ := r2.getOw e0
          have ea : a' = a := by
            rw [g1] at k1
            have := Option.some.inj (Option.some.inj k1)
            cases this; rfl
          subst ea
          cases k3 with
          | @dt kvs _ _ q z kr =>
            have hlen : kvs.length < sizeLine := by
              have : kvs.length = ks.length := by rw [← z, List.length_map]
              rw [this]; exact lenOk_lt hl
            obtain ⟨w1, w2⟩ := put_ok (k := k) (p1.mono e2.vw) z kr
            exact ⟨a', _, rfl, .inr ⟨kvs, _, b, q, rfl, by rw [hu, keys_ok p2 ek], hlen, rfl⟩, h2 os σ _ (r2.change k1 k2 (.dt upd_same w1 w2))⟩
        · rw [if_neg hl] at h2
          exact h2.elim
      · exact h2.elim
    · rw [if_neg hb] at h2
      exact h2.elim
  · exact h1.elim
/-! ### for k in x, x an own dict; it stands and is locked from there on -/
theorem ps_lockP {s0 : Stmt} {t : TS} (h : PS X s0 t) : PS X s0 (fun D σ H => ∃ d u, H d = some u ∧ Mut (some u) ∧ ∀ od, t D σ (upd H d (.frz od u))) :=
  ⟨fun pins s σ H D I hw => by
    obtain ⟨d, u, hd, mu, hw⟩ := hw
    obtain ⟨od, I1⟩ := I.lock hd mu
    exact h.run pins s σ _ _ I1 (hw od)⟩
def keyD : Key → D
  | .inl i => .int i
  | .inr x => .str x
def keyOk : Key → Bool
  | .inl _ => true
  | .inr x => strOk x
theorem keyD_ok {T : List Addr} {K : PySem.W.Frag} {H : Hp} {k : Key} (h : keyOk k = true) : Rp K T H (kV k) (keyD k) := by
  cases k with
  | inl i => exact .int i
  | inr x => exact .str h
end
section
variable {K : PySem.W.Frag} {c : Ct} {os : List (Option Addr)} {ρ : Env} {μ : Store} {σ : L2.St} {H H' : Hp} {a : Addr} {d : D}
/-- an own thing is written to, as it stands to the others -/
theorem Rl.updOwn (r : Rl K c os ρ μ σ H) {i : Nat} {o : HO} (h2 : os[i]? = some (some a)) (h3 : i < ρ.length) (h1 : σ[i]? = some (some (.ref a))) (hv : vw c (os.set i none) (upd H a o) a = some o → Rp K c.T (vw c (os.set i none) (upd H a o)) (.ref a) d) : Rl K c (os.set i none) (ρ.set i (.fz d)) μ σ (upd H a o) := by
  have hm : some a ∈ os := List.mem_of_getElem? h2
  have l1 : i < os.length := (List.getElem?_eq_some_iff.mp h2).1
  obtain ⟨w1, w2, w3⟩ := r.own a hm
  have nin : some a ∉ os.set i none := fun q => by
    obtain ⟨j, hj⟩ := List.getElem?_of_mem q
    by_cases e : i = j
    · subst e
      rw [List.getElem?_set_self l1] at hj; cases hj
    · rw [List.getElem?_set_ne e] at hj
      exact e (r.inj i j a h2 hj)
  have up : Exts (vw c os H) (vw c (os.set i none) (upd H a o)) := fun b u hb => by
    obtain ⟨q1, q2, q3, q4⟩ := vw_some.mp hb
    have nb : b ≠ a := fun z => q4 (by rw [z]; exact hm)
    exact vw_some.mpr ⟨by rw [upd_ne nb]; exact q1, q2, q3, fun z => q4 (mem_set_none z)⟩
  have hr := hv (vw_some.mpr ⟨upd_same, w2, w1, nin⟩)
  refine ⟨by simp [r.lo], by simp [r.lr], fun j u s x q1 q2 q3 => ?_, fun j k b q1 q2 => ?_, fun b q => r.own b (mem_set_none q), r.tA, r.tn, r.sm, fun n b ds q1 q2 => ?_, fun b u q1 q2 => ?_, fun b q => ?_⟩
  · by_cases hj : i = j
    · subst hj
      rw [List.getElem?_set_self l1] at q1
      rw [List.getElem?_set_self h3] at q2
      rw [h1] at q3
      cases q1; cases q2; cases q3
      exact hr
    · rw [List.getElem?_set_ne hj] at q1 q2
      have q := r.sl j u s x q1 q2 q3
      have hu : ∀ b, u = some b → b ≠ a := fun b eb z => by
        subst eb
        subst z
        exact hj (r.inj i j b h2 q1)
      unfold SlAt at q ⊢
      split at q
      · trivial
      · exact q.mono up
      · refine ⟨q.1, q.2.mono up (fun w hw => ?_)⟩
        rw [upd_ne (hu _ rfl)]; exact hw
      · exact q.elim
  · have g : ∀ m, (os.set i none)[m]? = some (some b) → os[m]? = some (some b) := fun m hm => by
      by_cases e : i = m
      · subst e
        rw [List.getElem?_set_self l1] at hm; cases hm
      · rw [List.getElem?_set_ne e] at hm; exact hm
    exact r.inj j k b (g j q1) (g k q2)
  · have nb : b ≠ a := fun z => by subst z; exact w1 (List.mem_of_getElem? q1)
    rw [upd_ne nb]; exact r.st n b ds q1 q2
  · have nb : b ≠ a := fun z => by
      subst z
      rw [q1] at w3; cases w3
    rw [upd_ne nb]
    exact r.keep b u q1 q2
  · obtain ⟨u, z, nu⟩ := r.dom b q
    have nb : b ≠ a := fun z => by subst z; exact w2 q
    exact ⟨u, by rw [upd_ne nb]; exact z, nu⟩
end
section
variable {X : Cx} {cl : Nat → Addr} {W : WX} {fr : Bool} {tg : Expr} {x : Str} {p : Pos} {is : List Nat}
def sForK (i : Nat) (g : Tg) (F : SD) : SD := fun ρ μ => match ρ[i]? with
  | some (.ow (.dk ks vs)) => if ks.all keyOk then sForL g F (ks.map keyD) (ρ.set i (.fz (.dk ks vs))) μ else .fail
  | _ => .fail
theorem hForK {s0 : Stmt} {i : Nat} {g : Tg} {F : SD} (h : PS X s0 (tFor (iKeys (tVar i)) (tG X.K is g) (tS X.K cl W fr F))) : PS X s0 (tS X.K cl W fr (sForK i g F)) := ps_imp (ps_lockP h) fun E σ H => by
  rintro ⟨c, os, ρ, μ, r, h⟩
  unfold sForK at h
  split at h
  · rename_i ks vs e0
    by_cases hk : ks.all keyOk = true
    · rw [if_pos hk] at h
      obtain ⟨a, g1, g2, g3⟩ := r.getOw e0
      cases g3 with
      | @dk kvs _ _ q z kr =>
        refine ⟨a, .dK kvs, q, trivial, fun od => ?_⟩
        have hi : i < ρ.length := (List.getElem?_eq_some_iff.mp e0).1
        have hm : some a ∈ os := List.mem_of_getElem? g2
        have up : Exts (vw c os H) (vw c (os.set i none) (upd H a (.frz od (.dK kvs)))) := fun b u hb => by
          obtain ⟨q1, q2, q3, q4⟩ := vw_some.mp hb
          have nb : b ≠ a := fun z => q4 (by rw [z]; exact hm)
          exact vw_some.mpr ⟨by rw [upd_ne nb]; exact q1, q2, q3, fun z => q4 (mem_set_none z)⟩
        have r1 := r.updOwn (d := .dk ks vs) (o := .frz od (.dK kvs)) g2 hi g1 fun hv => .dk (.inr ⟨od, hv⟩) z (kr.mono up)
        have hl1 : i < os.length := (List.getElem?_eq_some_iff.mp g2).1
        have nin : some a ∉ os.set i none := fun q => by
          obtain ⟨j, hj⟩ := List.getElem?_of_mem q
          by_cases e : i = j
          · subst e
            rw [List.getElem?_set_self hl1] at hj; cases hj
          · rw [List.getElem?_set_ne e] at hj
            exact e (r.inj i j a g2 hj)
        have hseen : vw c (os.set i none) (upd H a (.frz od (.dK kvs))) a = some (.frz od (.dK kvs)) :=
          vw_some.mpr ⟨upd_same, (r.own a hm).2.1, (r.own a hm).1, nin⟩
        -- the walk over the keys
        refine ⟨.ref a, g1, a, od, rfl, .inl ⟨kvs, upd_same, ?_⟩⟩
        have hw : Walk (Itk a od kvs) (ks.map keyD).length (fun H => H a = some (.frz od (.dK kvs))) (YD X.K c.T (vw c (os.set i none) (upd H a (.frz od (.dK kvs)))) (ks.map keyD)) := by
          have el : (ks.map keyD).length = kvs.length := by rw [List.length_map, ← z, List.length_map]
          rw [el]
          refine walk_keys.mono (fun _ h => h) fun j H x H' _ _ y => ?_
          obtain ⟨y1, k, v, y2, y3⟩ := y
          have ek : ks[j]? = some k := by rw [← z, List.getElem?_map, y2]; rfl
          refine ⟨keyD k, by rw [List.getElem?_map, ek]; rfl, .inl ⟨y1, ?_⟩⟩
          rw [y3]
          exact keyD_ok (List.all_eq_true.mp hk k (List.mem_of_getElem? ek))
        have hk' := r1.holds
        have r1h := r1.hold
        have hG : ∀ b o, vw c (os.set i none) (upd H a (.frz od (.dK kvs))) b = some o → b ∉ c.T ∧ ¬ c.A b := fun b o h => ⟨(vw_some.mp h).2.2.1, (vw_some.mp h).2.1⟩
        refine for_it hw (fun j σ H2 => ∃ os' ρ μ, Rl X.K (c.hold (vw c (os.set i none) (upd H a (.frz od (.dK kvs))))) os' ρ μ σ H2 ∧ SOut X.K cl W fr (c.hold (vw c (os.set i none) (upd H a (.frz od (.dK kvs))))) E (sForL g F ((ks.map keyD).drop j) ρ μ)) ⟨_, _, μ, r1h, SOut.hold h hk'⟩ ?_ ?_ ?_
        · rintro j σ H2 _ ⟨os', ρ, μ, r, _⟩
          exact vw_le _ _ (r.sees hG _ _ hseen)
        · rintro j x σ H2 H' hi ⟨os', ρ, μ, r, h⟩ y
          obtain ⟨d, e, r', p, k⟩ := y.rp r
          have hd : (ks.map keyD).drop j = d :: (ks.map keyD).drop (j + 1) := by
            obtain ⟨hl, e'⟩ := List.getElem?_eq_some_iff.mp e
            rw [← e']
            exact List.drop_eq_getElem_cons hl
          rw [hd] at h
          unfold sForL at h
          cases eg : g d ρ with
          | none => rw [eg] at h; exact h.elim
          | some ρ1 =>
            rw [eg] at h
            refine ⟨_, os', ρ, μ, d, ρ1, r', p, eg, fun os2 σ2 r2 s2 => ?_⟩
            refine ⟨_, os2, ρ1, μ, r2, ?_⟩
            have h' : SOut X.K cl W fr (c.hold (vw c (os.set i none) (upd H a (.frz od (.dK kvs))))) E (match F ρ1 μ with
              | .nx ρ' μ' => sForL g F ((ks.map keyD).drop (j + 1)) ρ' μ'
              | .ct ρ' μ' => sForL g F ((ks.map keyD).drop (j + 1)) ρ' μ'
              | .bk ρ' μ' => .nx ρ' μ'
              | r => r) := h
            cases eF : F ρ1 μ with
            | nx ρ' μ' => rw [eF] at h'; exact fun os' σ' H' r' => ⟨os', ρ', μ', r', h'⟩
            | ct ρ' μ' => rw [eF] at h'; exact fun os' σ' H' r' => ⟨os', ρ', μ', r', h'⟩
            | bk ρ' μ' => rw [eF] at h'; exact h'
            | rt d μ' => rw [eF] at h'; exact h'
            | exc x ρ' μ' => rw [eF] at h'; exact h'
            | fail => rw [eF] at h'; exact h'
        · rintro σ H2 ⟨os', ρ, μ, r, h⟩
          rw [List.drop_length] at h
          exact h os' σ H2 r
    · rw [if_neg hk] at h
      exact h.elim
  · exact h.elim
/-- x = [.. for ..] -/
theorem hAsgLc {s0 : Stmt} {i : Nat} {f : XL} {g : Tg} {t : XB} {fe : XD} {vs : List Nat} (h : PS X s0 (tAsg (tLc (tI X.K cl W f) (tG X.K is g) (tT X.K cl W0 t) (tE X.K cl W0 fe) vs) (gName i))) (hv : ∀ i ∈ is, i ∈ vs := by decide) : PS X s0 (tS X.K cl W fr (sAsgF i (xLc f g t fe vs))) :=
  hAsgF (ps_imp h fun E σ H q => lc_imp hv σ H _ q)
end
end DC
set_option Elab.async false
set_option linter.all false
set_option maxRecDepth 100000
set_option maxHeartbeats 4000000
/-! DC: sorted of dicts; sum of tuples; range downwards. -/
namespace DC
open PySem PySem.Spec PyProof.Rows L2
inductive All2 {α β : Type} (R : α → β → Prop) : List α → List β → Prop
  | nil : All2 R [] []
  | cons {a : α} {b : β} {as : List α} {bs : List β} : R a b → All2 R as bs → All2 R (a :: as) (b :: bs)
theorem All2.of_map {α β γ : Type} {R : β → γ → Prop} {f : α → β} {g : α → γ} : ∀ {l : List α}, (∀ x, x ∈ l → R (f x) (g x)) → All2 R (l.map f) (l.map g)
  | [], _ => .nil
  | x :: l, h => .cons (h x (by simp)) (All2.of_map fun y hy => h y (List.mem_cons_of_mem _ hy))
def pairAt (H : Hp) (v : Value) : Int × Int := match v with
  | .ref t => match H t with
    | some (.tup [.int i, .int j]) => (i, j)
    | _ => (0, 0)
  | _ => (0, 0)
def rSortedDT : List V → Hp → VK → Prop := fun vs H Q => ∃ (a : Addr) (kvs : List (List Key × V)) (ps : List (Int × Int)), vs = [.ref a] ∧ Rd H a (.dT kvs) ∧ kvs.map Prod.fst = ps.map (fun p => [Sum.inl p.1, Sum.inl p.2]) ∧
  ∀ (qs : List (Int × Int)) (ys : List V) (p : Addr), qs.Perm ps → qs.Pairwise (fun a b => SrtO.lexB b a = false) → All2 (fun y q => ∃ t, y = V.ref t ∧ H t = some (.tup [.int q.1, .int q.2])) ys qs → H p = none → Q (.ref p) (upd H p (.lst ys))
theorem KT_map {H : Hp} : ∀ {kvs : List (List Key × V)} {xs : List (List Key × Addr × Value)} {ps : List (Int × Int)}, KT H kvs xs → kvs.map Prod.fst = ps.map (fun p => [Sum.inl p.1, Sum.inl p.2]) → All2 (fun (x : List Key × Addr × Value) q => H x.2.1 = some (.tup [.int q.1, .int q.2])) xs ps
  | _, _, ps, .nil, e => by
    cases ps with
    | nil => exact .nil
    | cons p ps => cases e
  | _, _, ps, .cons (a := kv) h t, e => by
    cases ps with
    | nil => cases e
    | cons p ps =>
      rw [List.map_cons, List.map_cons] at e
      obtain ⟨e1, e2⟩ := List.cons.inj e
      refine .cons ?_ (KT_map t e2)
      obtain ⟨_, h2, _⟩ := h
      rw [h2, e1]
      rfl
theorem All2.length {α β : Type} {R : α → β → Prop} : ∀ {as : List α} {bs : List β}, All2 R as bs → as.length = bs.length
  | _, _, .nil => rfl
  | _, _, .cons _ t => by rw [List.length_cons, List.length_cons, t.length]
theorem All2.get {α β : Type} {R : α → β → Prop} : ∀ {as : List α} {bs : List β} {i : Nat} {a : α}, All2 R as bs → as[i]? = some a → ∃ b, bs[i]? = some b ∧ R a b
  | _, _, i, a, .nil, e => by simp at e
  | _, _, 0, a, .cons (b := b) h t, e => by
    have e' := Option.some.inj (by simpa using e)
    subst e'
    exact ⟨b, rfl, h⟩
  | _, _, i + 1, a, .cons h t, e => by
    obtain ⟨b, h1, h2⟩ := All2.get (i := i) t (by simpa using e)
    exact ⟨b, by simpa using h1, h2⟩
section
variable {X : Cx}
theorem call_sortedDT (hcalm : X.calm = true) : CallR X (.builtin "sorted") rSortedDT := by
  intro pins s σ H xs us Q I r q
  obtain ⟨a, kvs, ps, ex, hd, hks, q⟩ := q
  subst ex
  obtain ⟨u, eu, rx⟩ := vals1 r
  subst eu
  cases rx
  obtain ⟨z, lo, xs, rel, dd⟩ := dt_rd I.hok hd
  obtain ⟨o, es, ep, ho, hx, hdat, hes, his, hn⟩ := dd
  have l1 : kvs.length = xs.length := Paired.length rel
  have l2 : es.size = xs.length := size_of_entries hes
  have hal := KT_map rel hks
  have h16 : es.size ≤ sizeLine := by rw [l2, ← l1]; exact z
  refine Calls.call_function_entry PyProof.Rows.kind_sorted PyProof.Rows.plain_sorted PyProof.Rows.entry_sorted (PyProof.Rows.args_sorted1 _) ?_
  unfold Builtin.«sorted»
  refine wpAny_bind (m := checkCount "sorted" 1 1 _) (wpAny_pure ?_)
  refine wpAny_bind (PySem.W.kdu_collect (A := X.A.in1) (KdlSrc.rawDict (es := es) (ep := ep) lo) (I.ok.hd hcalm) ⟨o, ho, hx, hdat⟩ h16 fun h' tk acc hk hacc => ?_)
  have hlen : acc.toList.length = xs.length := by rw [Array.length_toList, hacc.1, l2]
  have hacc2 : acc.toList = xs.map (fun x => Value.ref x.2.1) := by
    apply List.ext_getElem?
    intro j
    cases e : acc.toList[j]? with
    | none =>
      have : xs.length ≤ j := by rw [← hlen]; exact List.getElem?_eq_none_iff.mp e
      rw [List.getElem?_map, List.getElem?_eq_none this]; rfl
    | some v =>
      obtain ⟨hi, ev⟩ := hacc.2 j v (by rw [← Array.getElem?_toList]; exact e)
      have h1 : es.toList[j]? = some es[j] := by rw [Array.getElem?_toList]; exact Array.getElem?_eq_getElem hi
      rw [hes, List.getElem?_map] at h1
      obtain ⟨x, h2, h3⟩ := Option.map_eq_some_iff.mp h1
      rw [List.getElem?_map, h2]
      rw [ev, ← h3]
      rfl
  have hp : ∀ v ∈ acc.toList, Srt.IsPair h' v (pairAt H v).1 (pairAt H v).2 := fun v hv => by
    rw [hacc2] at hv
    obtain ⟨x, hx1, hx2⟩ := List.mem_map.mp hv
    obtain ⟨j, hj⟩ := List.getElem?_of_mem hx1
    obtain ⟨p, hp1, hp2⟩ := hal.get hj
    subst hx2
    have e1 : pairAt H (.ref x.2.1) = p := by
      show (match H x.2.1 with
        | some (.tup [.int i, .int j]) => (i, j)
        | _ => (0, 0)) = p
      rw [hp2]
    rw [e1]
    obtain ⟨_, its2, r2, o, ho, hc, n, hd⟩ := I.hok _ _ hp2
    obtain ⟨u1, u2, rfl, ri, rj⟩ := vals2 r2
    obtain ⟨t1, rfl⟩ := ri
    obtain ⟨t2, rfl⟩ := rj
    exact ⟨_, o, t1, t2, n, rfl, hk _ _ ho, hc, hd⟩
  have hmap : acc.toList.map (pairAt H) = ps := by
    rw [hacc2, List.map_map]
    apply List.ext_getElem?
    intro j
    rw [List.getElem?_map]
    cases e : xs[j]? with
    | none =>
      have : ps.length ≤ j := by rw [← hal.length]; exact List.getElem?_eq_none_iff.mp e
      rw [List.getElem?_eq_none this]; rfl
    | some x =>
      obtain ⟨p, hp1, hp2⟩ := hal.get e
      rw [hp1]
      show some (pairAt H (.ref x.2.1)) = some p
      congr 1
      show (match H x.2.1 with
        | some (.tup [.int i, .int j]) => (i, j)
        | _ => (0, 0)) = p
      rw [hp2]
  have I1 : Inv X pins σ H { s with heap := h', toks := tk } := I.kept hk
  have hz : acc.toList.length ≤ sizeLine := by rw [hlen, ← l1]; exact z
  refine wpAny_bind (wpAny_newList ?_ hz)
  have hoL : (h'.push (seqObj "list" acc.toList.toArray 0)).get? h'.objs.size = some (seqObj "list" acc.toList.toArray 0) := Heap.get?_push_size _ rfl
  show wpAny _ _ _ _ _ { s with heap := h'.push (seqObj "list" acc.toList.toArray 0), toks := tk }
  refine wpAny_bind (wpAny_holding (wpAny_call_entry PyProof.Rows.slot_list_sort ⟨_, hoL, rfl⟩ PyProof.Rows.entry_list_sort
    (SrtO.list_sort_ord (s := { s with heap := h'.push (seqObj "list" acc.toList.toArray 0), toks := tk }) (SrtO.swo_lex (pairAt H)) hoL hz (fun h2 => SrtO.pairs_sortableO (by omega) (fun v hv => (hp v hv).keeps fun b o e _ => Heap.get?_push_of_some _ e) fun o e => ?_) fun out hs hb => ⟨_, rfl, ?_⟩) (PyProof.Rows.args_list_sort _)))
  · have e' : some o = some (seqObj "list" acc.toList.toArray 0) := e.symm.trans hoL
    cases e'
    intro c
    exact absurd (Value.type.inj c) (by decide)
  · obtain ⟨e', he'⟩ := PyProof.Rows.sortedHeap_at (vs := acc.toList) (out := out.toArray) hoL
    have h3 : ∀ u ∈ out, ∃ a, u = Value.ref a := fun u hu => by
      have := hb.perm.mem_iff.mp hu
      rw [hacc2] at this
      obtain ⟨x, _, hx2⟩ := List.mem_map.mp this
      exact ⟨_, hx2.symm⟩
    have hlen2 : (out.map backV).length ≤ sizeLine := by
      rw [List.length_map, hb.perm.length_eq]
      exact hz
    refine wpAny_pure ⟨_, rfl, .ref h'.objs.size, upd H h'.objs.size (.lst (out.map backV)), I1.laid (t' := tk) (fun b u e => ?_) (Nat.le_refl _)
      (show ObjOk X.prog X.w _ _ _ (.lst (out.map backV)) from ⟨hlen2, out, e', vals_back h3, he'⟩), rfl, q (out.map (pairAt H)) _ _ ?_ ?_ ?_ (I1.hok.fresh (Nat.le_refl _))⟩
    · have hb : b < h'.objs.size := Heap.lt_size e
      rw [PyProof.Rows.sortedHeap_old (Nat.ne_of_lt hb) (by rw [size_push']; exact Nat.lt_succ_of_lt hb)]
      exact Heap.get?_push_of_some _ e
    · rw [← hmap]
      exact hb.perm.map _
    · exact List.pairwise_map.mpr hs
    · refine All2.of_map fun v hv => ?_
      have hv2 := hb.perm.mem_iff.mp hv
      rw [hacc2] at hv2
      obtain ⟨x, hx1, hx2⟩ := List.mem_map.mp hv2
      obtain ⟨j, hj⟩ := List.getElem?_of_mem hx1
      obtain ⟨p, hp1, hp2⟩ := hal.get hj
      subst hx2
      have e1 : pairAt H (.ref x.2.1) = p := by
        show (match H x.2.1 with
          | some (.tup [.int i, .int j]) => (i, j)
          | _ => (0, 0)) = p
        rw [hp2]
      exact ⟨x.2.1, rfl, by rw [e1]; exact hp2⟩
end
/-! ### sum of a tuple of ints -/
theorem preSum_ints (ns : List Int) : ∀ j, j ≤ ns.length → preSum (fun i => ns.getD i 0) j = (ns.take j).sum
  | 0, _ => rfl
  | j + 1, h => by
    have hlt : j < ns.length := h
    show preSum (fun i => ns.getD i 0) j + ns.getD j 0 = _
    rw [preSum_ints ns j (Nat.le_of_lt hlt)]
    have e : ns.take (j + 1) = ns.take j ++ [ns[j]] := by
      rw [List.take_add_one, List.getElem?_eq_getElem hlt] <;> rfl
    rw [e, List.sum_append]
    simp [hlt]
section
variable {X : Cx}
theorem call_sumT (hc : X.calm = true) : CallR X (.builtin "sum") (fun vs H Q => ∃ (a : Addr) (ns : List Int), vs = [V.ref a] ∧ SqT X.K H a (ns.map V.int) ∧ Q (.int ns.sum) H) := by
  intro pins s σ H vs us Q I r h
  obtain ⟨a, ns, rfl, hs, q⟩ := h
  obtain ⟨its, rv, hl, _⟩ := I.tuple hs
  rw [Vals.ref1 r]
  have hi := rv.ints
  have hlen : its.length = ns.length := by rw [← rv.length, List.length_map]
  have hal : a < s.heap.objs.size := by obtain ⟨o, ho, _⟩ := (show s.heap.IsTuple a its.toArray from hl); exact Heap.lt_size ho
  refine call_sum_walkAnyS ?_
  refine wpAny_pyIter_tuple (show s.heap.IsTuple a its.toArray from hl) ?_
  refine ⟨s.heap.objs.size, _, _, _, _, _, _, fun i => ns.getD i 0, rfl, (Walks.tuple (A := X.A.in1) (I.ok.hd hc) s.heap.objs.size a (Nat.ne_of_lt hal) its.toArray).toS, ⟨⟨_, Heap.get?_push_size _ rfl, rfl, rfl⟩, (show s.heap.IsTuple a its.toArray from hl).at fun o e => Heap.get?_push_of_some _ e⟩, fun b hb => ?_, fun i v hv => ?_, fun s' t' hm => ?_⟩
  · show b < (s.heap.push _).objs.size
    rw [size_push']
    rcases List.mem_cons.mp hb with e | hb
    · rw [e]; exact Nat.lt_succ_self _
    · rw [List.mem_singleton.mp hb]; exact Nat.lt_succ_of_lt hal
  · have e1 : its[i]? = some v := by simpa using hv
    have hlt : i < ns.length := by rw [← hlen]; exact (List.getElem?_eq_some_iff.mp e1).1
    have hz : ns[i]? = some ns[i] := List.getElem?_eq_getElem hlt
    obtain ⟨u, hu, ru⟩ := rv.get (x := V.int ns[i]) (by rw [List.getElem?_map, hz]; rfl)
    rw [e1] at hu
    cases hu
    obtain ⟨t, rfl⟩ := ru
    exact ⟨t, by simp [hz]⟩
  · have hk : ∀ b o, s.heap.get? b = some o → s'.heap.get? b = some o := fun b o e =>
      hm.heap b o (fun hI => absurd (Heap.lt_size e) (by rw [List.mem_singleton.mp hI]; exact Nat.lt_irrefl _)) (Heap.get?_push_of_some _ e)
    rw [Moved.eq_with hm]
    have e : preSum (fun i => ns.getD i 0) its.toArray.size = ns.sum := by
      rw [List.size_toArray, hlen, preSum_ints ns _ (Nat.le_refl _), List.take_length]
    rw [e]
    exact ⟨.int _, H, I.kept (t' := s'.toks) hk, ⟨_, rfl⟩, q⟩
end
def sumTD : List D → Option D
  | [.tup ds] => (D.ints ds).map fun ns => .int ns.sum
  | _ => none
theorem c_sumT {K : PySem.W.Frag} : CbD K (fun vs H Q => ∃ (a : Addr) (ns : List Int), vs = [V.ref a] ∧ SqT K H a (ns.map V.int) ∧ Q (.int ns.sum) H) sumTD := fun {c os ρ μ σ H vs ds d Q} r p e q => by
  unfold sumTD at e
  split at e
  · obtain ⟨ns, e1, e2⟩ := Option.map_eq_some_iff.mp e
    subst e2
    have z := D.ints_eq e1
    subst z
    obtain ⟨v, z, pv⟩ := p.one
    subst z
    obtain ⟨a, us, z, g1, g2⟩ := pv.inv_tup
    subst z
    have z := g2.ints
    subst z
    exact ⟨a, ns, rfl, vw_le.sqT g1, VOk.same q r (.int _)⟩
  · cases e
def sumA : List D → Option D
  | [.lst ds] => (D.ints ds).map fun ns => .int ns.sum
  | [.tup ds] => (D.ints ds).map fun ns => .int ns.sum
  | _ => none
theorem c_sumA {K : PySem.W.Frag} : CbD K (fun vs H Q => rSum K vs H Q ∨ ∃ (a : Addr) (ns : List Int), vs = [V.ref a] ∧ SqT K H a (ns.map V.int) ∧ Q (.int ns.sum) H) sumA := c_sum.or c_sumT fun x z e => by
  unfold sumA at e
  split at e
  · exact .inl e
  · exact .inr e
  · cases e
/-! ### sorted of lists of ints, dicts with int keys, dicts with keys of two ints -/
def insP (x : Int × Int) : List (Int × Int) → List (Int × Int)
  | [] => [x]
  | y :: r => if SrtO.lexB y x then y :: insP x r else x :: y :: r
def sortP : List (Int × Int) → List (Int × Int)
  | [] => []
  | x :: r => insP x (sortP r)
theorem insP_perm (x : Int × Int) : ∀ l : List (Int × Int), (insP x l).Perm (x :: l)
  | [] => .refl _
  | y :: r => by
    unfold insP
    split
    · exact ((insP_perm x r).cons y).trans (.swap x y r)
    · exact .refl _
theorem sortP_perm : ∀ l : List (Int × Int), (sortP l).Perm l
  | [] => .refl _
  | x :: r => (insP_perm x _).trans ((sortP_perm r).cons x)
theorem lexB_total {a b : Int × Int} (h : SrtO.lexB a b = false) (h' : SrtO.lexB b a = false) : a = b := by
  have h1 := SrtO.lexB_no.mp h
  have h2 := SrtO.lexB_no.mp h'
  obtain ⟨a1, a2⟩ := a
  obtain ⟨b1, b2⟩ := b
  simp only [Prod.mk.injEq] at *
  omega
theorem lexB_tr {a b c : Int × Int} (h : SrtO.lexB b a = false) (h' : SrtO.lexB c b = false) : SrtO.lexB c a = false := by
  have h1 := SrtO.lexB_no.mp h
  have h2 := SrtO.lexB_no.mp h'
  refine SrtO.lexB_no.mpr ?_
  omega
theorem insP_sorted (x : Int × Int) : ∀ l : List (Int × Int), l.Pairwise (fun a b => SrtO.lexB b a = false) → (insP x l).Pairwise (fun a b => SrtO.lexB b a = false)
  | [], _ => by unfold insP; exact List.pairwise_singleton _ _
  | y :: r, h => by
    unfold insP
    split
    · rename_i hxy
      refine List.pairwise_cons.mpr ⟨fun z hz => ?_, insP_sorted x r (List.pairwise_cons.mp h).2⟩
      rcases List.mem_cons.mp ((insP_perm x r).mem_iff.mp hz) with e | hz
      · subst e
        refine SrtO.lexB_no.mpr ?_
        have := SrtO.lexB_iff.mp hxy
        omega
      · exact (List.pairwise_cons.mp h).1 z hz
    · rename_i hxy
      have hxy' : SrtO.lexB y x = false := by cases e : SrtO.lexB y x with | true => exact absurd e hxy | false => rfl
      refine List.pairwise_cons.mpr ⟨fun z hz => ?_, h⟩
      rcases List.mem_cons.mp hz with e | hz
      · rw [e]; exact hxy'
      · exact lexB_tr hxy' ((List.pairwise_cons.mp h).1 z hz)
theorem sortP_sorted : ∀ l : List (Int × Int), (sortP l).Pairwise (fun a b => SrtO.lexB b a = false)
  | [] => List.Pairwise.nil
  | x :: r => insP_sorted x _ (sortP_sorted r)
theorem sortedP_uniq : ∀ {l m : List (Int × Int)}, l.Perm m → l.Pairwise (fun a b => SrtO.lexB b a = false) → m.Pairwise (fun a b => SrtO.lexB b a = false) → l = m
  | [], m, h, _, _ => by rw [List.nil_perm.mp h]
  | x :: r, [], h, _, _ => by have := h.length_eq; simp at this
  | x :: r, y :: s, h, h1, h2 => by
    have a1 := List.pairwise_cons.mp h1
    have a2 := List.pairwise_cons.mp h2
    have e : x = y := by
      have m1 : x ∈ y :: s := h.mem_iff.mp (by simp)
      have m2 : y ∈ x :: r := h.mem_iff.mpr (by simp)
      rcases List.mem_cons.mp m1 with z1 | z1
      · exact z1
      · rcases List.mem_cons.mp m2 with z2 | z2
        · exact z2.symm
        · exact lexB_total (a2.1 x z1) (a1.1 y z2)
    subst e
    rw [sortedP_uniq (List.Perm.cons_inv h) a1.2 a2.2]
def keyInts : List Key → Option (List Int)
  | [] => some []
  | .inl i :: r => (keyInts r).map (i :: ·)
  | .inr _ :: _ => none
def keyPairs : List (List Key) → Option (List (Int × Int))
  | [] => some []
  | [.inl i, .inl j] :: r => (keyPairs r).map ((i, j) :: ·)
  | _ :: _ => none
theorem keyInts_eq : ∀ {ks : List Key} {ns : List Int}, keyInts ks = some ns → ks = ns.map Sum.inl
  | [], _, h => by cases h; rfl
  | .inl i :: r, _, h => by
    obtain ⟨ms, h1, h2⟩ := Option.map_eq_some_iff.mp (show (keyInts r).map (i :: ·) = some _ from h)
    subst h2
    rw [keyInts_eq h1]
    rfl
  | .inr _ :: r, _, h => by cases h
theorem keyPairs_eq : ∀ {ks : List (List Key)} {ns : List (Int × Int)}, keyPairs ks = some ns → ks = ns.map fun p => [Sum.inl p.1, Sum.inl p.2]
  | [], _, h => by cases h; rfl
  | ks :: r, ns, h => by
    unfold keyPairs at h
    split at h
    · rename_i h0; cases h0
    · rename_i i j r' h0
      cases h0
      obtain ⟨ms, h1, h2⟩ := Option.map_eq_some_iff.mp h
      subst h2
      rw [keyPairs_eq h1]
      rfl
    · cases h
def sortedDID : List D → Option D
  | [.dk ks _] => (keyInts ks).bind fun ns => if Nat.blt ns.length 64 then some (.lst ((sortI ns).map D.int)) else none
  | _ => none
def pairI (p : Int × Int) : D := .tup [.int p.1, .int p.2]
def sortedDTD : List D → Option D
  | [.dt ks _] => (keyPairs ks).map fun ns => .lst ((sortP ns).map pairI)
  | _ => none
def sortedA : List D → Option D
  | [.lst ds] => (D.ints ds).map fun ns => .lst ((sortI ns).map D.int)
  | [.dk ks _] => (keyInts ks).bind fun ns => if Nat.blt ns.length 64 then some (.lst ((sortI ns).map D.int)) else none
  | [.dt ks _] => (keyPairs ks).map fun ns => .lst ((sortP ns).map pairI)
  | _ => none
abbrev rSortedDI : List V → Hp → VK → Prop := fun xs H Q => ∃ (a : Addr) (kvs : List (Key × V)) (ks : List Int), xs = [.ref a] ∧ Rd H a (.dK kvs) ∧ kvs.map (·.1) = ks.map Sum.inl ∧ ks.length < 64 ∧
    ∀ (ys : List Int) (p : Addr), ys.Perm ks → ys.Pairwise (· ≤ ·) → H p = none → Q (.ref p) (upd H p (.lst (ys.map V.int)))
section
variable {K : PySem.W.Frag}
theorem c_sortedDI : CbF K rSortedDI sortedDID := fun {c os ρ μ σ H vs ds d Q} r p e q => by
  unfold sortedDID at e
  split at e
  · rename_i ks xs
    obtain ⟨ns, e1, e2⟩ := Option.bind_eq_some_iff.mp e
    by_cases hl : Nat.blt ns.length 64 = true
    · rw [if_pos hl] at e2
      cases e2
      obtain ⟨v, z, pv⟩ := p.one
      subst z
      obtain ⟨a, kvs, z, g1, g2, g3⟩ := pv.inv_dk
      subst z
      refine ⟨a, kvs, ns, rfl, vw_le.rd g1, by rw [← keyInts_eq e1]; exact g2, Nat.le_of_ble_eq_true hl, fun ys p h1 h2 n => ?_⟩
      have e : ys = sortI ns := sorted_uniq (h1.trans (sortI_perm ns).symm) h2 (sortI_sorted ns)
      subst e
      exact FOk.newL q r (RpA.of_ints _) n
    · rw [if_neg hl] at e2
      cases e2
  · cases e
theorem All2.rp {T : List Addr} {H Hv : Hp} (hs : ∀ t xs, H t = some (.tup xs) → Hv t = some (.tup xs)) : ∀ {ys : List V} {qs : List (Int × Int)}, All2 (fun y q => ∃ t, y = V.ref t ∧ H t = some (.tup [.int q.1, .int q.2])) ys qs → RpA K T Hv ys (qs.map pairI)
  | _, _, .nil => .nil
  | _, _, .cons h t => by
    obtain ⟨a, rfl, ha⟩ := h
    exact .cons (.tup (.inl (.inl (hs _ _ ha))) (.cons (.int _) (.cons (.int _) .nil))) (All2.rp hs t)
theorem c_sortedDT : CbF K rSortedDT sortedDTD := fun {c os ρ μ σ H vs ds d Q} r p e q => by
  unfold sortedDTD at e
  split at e
  · rename_i ks xs
    obtain ⟨ns, e1, e2⟩ := Option.map_eq_some_iff.mp e
    subst e2
    obtain ⟨v, z, pv⟩ := p.one
    subst z
    obtain ⟨a, kvs, z, g1, g2, g3⟩ := pv.inv_dt
    subst z
    refine ⟨a, kvs, ns, rfl, vw_le.rd g1, by rw [← keyPairs_eq e1]; exact g2, fun qs ys p h1 h2 h3 n => ?_⟩
    have e : qs = sortP ns := sortedP_uniq (h1.trans (sortP_perm ns).symm) h2 (sortP_sorted ns)
    subst e
    exact FOk.newL q r (All2.rp (fun t xs h => r.tupSeen h) h3) n
  · cases e
theorem c_sortedA : CbF K (fun xs H Q => rSortedI K xs H Q ∨ (rSortedDI xs H Q ∨ rSortedDT xs H Q)) sortedA := c_sortedI.or (c_sortedDI.or c_sortedDT (h := fun x => (sortedDID x).or (sortedDTD x)) fun x z e => by
    cases h : sortedDID x with
    | some w => rw [h] at e; exact .inl e
    | none => rw [h] at e; exact .inr e) fun x z e => by
  unfold sortedA at e
  split at e
  · exact .inl e
  · rename_i ks us
    have e' : sortedDID [.dk ks us] = some z := e
    refine .inr ?_
    show (sortedDID [.dk ks us]).or (sortedDTD [.dk ks us]) = some z
    rw [e']; rfl
  · rename_i ks us
    have e' : sortedDTD [.dt ks us] = some z := e
    refine .inr ?_
    show (none : Option D).or (sortedDTD [.dt ks us]) = some z
    rw [e']; rfl
  · cases e
end
/-! ### range(i, j, -1) -/
theorem jRg3 {X : Cx} {cl : Nat → Addr} {W : WX} {tg : Expr} {fs : XL} {p pos : Pos} {a b e : Expr} (hg : Gl X "range") (hm : X.mg "range" = none) (ha : PA X [a, b, e] (tL X.K cl W fs))
    (hs : starEach [a, b, e] X.env = (false, eval a X.env) :: starEach [b, e] X.env := by rfl) (hpl : (backTo pos (starEach [b, e] X.env)).any (·.1) = false := by rfl) : PI X tg (.Call (.Name "range" p) [a, b, e] [] pos) (tI X.K cl W (iRg3 fs)) := pi_imp (pi_range3 hg hm ha hs hpl) fun σ H R => by
  rintro ⟨c, os, ρ, μ, r, h⟩
  refine ⟨c, os, ρ, μ, r, (Out.bind h).imp (fun ds μ1 h1 => ?_) fun _ _ q => q⟩
  intro vs H1 r1 k pv
  split at h1
  · rename_i i j z
    by_cases hj : (rgOk i && rgOk j && decide (z = -1)) = true
    · rw [if_pos hj] at h1
      rw [Bool.and_eq_true, Bool.and_eq_true, decide_eq_true_eq] at hj
      obtain ⟨⟨hi, hj⟩, hz⟩ := hj
      subst hz
      cases pv with
      | cons q1 pv =>
        cases pv with
        | cons q2 pv =>
          cases pv with
          | cons q3 pv =>
            cases pv
            refine ⟨i, j, -1, (i - j).toNat, by rw [q1.inv_int, q2.inv_int, q3.inv_int], RgC.neg (rgOk_of hi).1 (rgOk_of hi).2 (rgOk_of hj).1 (rgOk_of hj).2, h1 _ H1 r1 k ⟨fun _ => True, fun _ _ => trivial, ?_⟩⟩
            rw [rangeC_len]
            exact walk_rangeC.mono (fun _ h => h) fun i H x H' hi _ y => ⟨_, rangeC_get hi, .inl ⟨y.1, by rw [y.2]; exact .int _⟩⟩
    · rw [if_neg hj] at h1
      exact h1.elim
  · exact h1.elim
end DC
set_option Elab.async false
set_option linter.all false
set_option maxRecDepth 100000
set_option maxHeartbeats 2000000
/-! DC: chains of three comparisons. -/
namespace DC
open PySem PySem.Spec PyProof.Rows L2
def tChain3 (r r' r'' : R2) (ta tb tc td : TE) : TE := fun σ H Q => ta σ H fun x H1 => tb σ H1 fun y H2 => r x y H2 fun z H3 => ∃ k, z = .bl k ∧
  (if k = true then tc σ H3 fun u H4 => r' y u H4 fun z2 H5 => ∃ k2, z2 = .bl k2 ∧ (if k2 = true then td σ H5 fun w' H6 => r'' u w' H6 Q else Q (.bl false) H5) else Q (.bl false) H3)
def xChain3 (g g' g'' : D → D → Option D) (f1 f2 f3 f4 : XD) : XD := fun ρ μ => (f1 ρ μ).bind fun a μ1 => (f2 ρ μ1).bind fun b μ2 => (Res.ofO ((g a b).bind asB) μ2).bind fun k μ2 =>
  if k then (f3 ρ μ2).bind fun c μ3 => (Res.ofO ((g' b c).bind asB) μ3).bind fun k2 μ3 => if k2 then (f4 ρ μ3).bind fun d μ4 => Res.ofO (g'' c d) μ4 else .ok (.bl false) μ3 else .ok (.bl false) μ2
section
variable {X : Cx} {cl : Nat → Addr} {W : WX} {a b c d : Expr} {f1 f2 f3 f4 : XD} {pos : Pos} {ta tb tc td : TE}
theorem pe_chain3 {op op' op'' : CmpOp} {r r' r'' : R2} (ho : OpR X (compareOp op) r) (ho' : OpR X (compareOp op') r') (ho'' : OpR X (compareOp op'') r'') (ha : PE X a ta) (hb : PE X b tb) (hc : PE X c tc) (hd : PE X d td)
    (hm : lastMarks [op, op', op''] [b, c, d] = false := by with_unfolding_all rfl) : PE X (.Compare a [op, op', op''] [b, c, d] pos) (tChain3 r r' r'' ta tb tc td) := by
  refine ⟨fun pins s σ H Q I h => ?_⟩
  refine Compare_chain (thn (ha.run pins s σ H _ I h) fun v s1 ⟨x, H1, I1, r1, q1⟩ => chain_link (thn (hb.run pins s1 σ H1 _ I1 q1) fun u s2 ⟨y, H2, I2, r2, q2⟩ =>
    thn (ho pins s2 σ H2 x y v u _ I2 r1 r2 q2) fun d s3 ⟨z, H3, I3, r3, k, e, q3⟩ => ?_)) hm
  subst e
  cases r3
  refine wpAny_truthy_bool ?_
  cases k with
  | false => exact ite_ff ⟨.bl false, H3, I3, rfl, q3⟩
  | true =>
    refine ite_tt (chain_link (thn (hc.run pins s3 σ H3 _ I3 q3) fun u2 s4 ⟨y2, H4, I4, r4, q4⟩ => thn (ho' pins s4 σ H4 y y2 u u2 _ I4 r2 r4 q4) fun d2 s5 ⟨z2, H5, I5, r5, k2, e2, q5⟩ => ?_))
    subst e2
    cases r5
    refine wpAny_truthy_bool ?_
    cases k2 with
    | false => exact ite_ff ⟨.bl false, H5, I5, rfl, q5⟩
    | true => exact ite_tt (chain_last (thn (hd.run pins s5 σ H5 _ I5 q5) fun w' s6 ⟨z', H6, I6, r6, q6⟩ => ho'' pins s6 σ H6 y2 z' u2 w' Q I6 r4 r6 q6))
theorem pt_chain3 {op op' op'' : CmpOp} {r r' r'' : R2} (ho : OpR X (compareOp op) r) (ho' : OpR X (compareOp op') r') (ho'' : OpR X (compareOp op'') r'') (ha : PE X a ta) (hb : PE X b tb) (hc : PE X c tc) (hd : PE X d td)
    (hm : lastMarks [op, op', op''] [b, c, d] = false := by with_unfolding_all rfl) : PT X (.Compare a [op, op', op''] [b, c, d] pos) (tTest (tChain3 r r' r'' ta tb tc td)) := by
  refine ⟨fun pins s σ H Q I h => ?_⟩
  refine isTrue_chain (thn (ha.run pins s σ H _ I h) fun v s1 ⟨x, H1, I1, r1, q1⟩ => test_link (thn (hb.run pins s1 σ H1 _ I1 q1) fun u s2 ⟨y, H2, I2, r2, q2⟩ =>
    thn (ho pins s2 σ H2 x y v u _ I2 r1 r2 q2) fun d s3 ⟨z, H3, I3, r3, k, e, q3⟩ => ?_)) hm
  subst e
  cases r3
  refine wpAny_truthy_bool ?_
  cases k with
  | false =>
    obtain ⟨k', e', q'⟩ := q3
    cases e'
    exact ite_ff ⟨H3, I3, q'⟩
  | true =>
    refine ite_tt (test_link (thn (hc.run pins s3 σ H3 _ I3 q3) fun u2 s4 ⟨y2, H4, I4, r4, q4⟩ => thn (ho' pins s4 σ H4 y y2 u u2 _ I4 r2 r4 q4) fun d2 s5 ⟨z2, H5, I5, r5, k2, e2, q5⟩ => ?_))
    subst e2
    cases r5
    refine wpAny_truthy_bool ?_
    cases k2 with
    | false =>
      obtain ⟨k', e', q'⟩ := q5
      cases e'
      exact ite_ff ⟨H5, I5, q'⟩
    | true =>
      refine ite_tt (test_last (thn (hd.run pins s5 σ H5 _ I5 q5) fun w' s6 ⟨z', H6, I6, r6, q6⟩ => thn (ho'' pins s6 σ H6 y2 z' u2 w' _ I6 r4 r6 q6) fun d' s7 ⟨z7, H7, I7, r7, k3, e3, q7⟩ => ?_))
      subst e3
      cases r7
      exact wpAny_truthy_bool ⟨H7, I7, q7⟩
theorem chain3_imp {r r' r'' : R2} {g g' g'' : D → D → Option D} (hs : Op2 X.K r g) (hs' : Op2 X.K r' g') (hs'' : Op2 X.K r'' g'') (σ : L2.St) (H : Hp) (Q : VK) (h : tE X.K cl W (xChain3 g g' g'' f1 f2 f3 f4) σ H Q) : tChain3 r r' r'' (tE X.K cl W f1) (tE X.K cl W f2) (tE X.K cl W f3) (tE X.K cl W f4) σ H Q := by
  obtain ⟨c, os, ρ, μ, r, h⟩ := h
  refine ⟨c, os, ρ, μ, r, (Out.bind h).imp (fun d1 μ1 h1 => ?_) fun _ _ q => q⟩
  intro v1 H1 r1 e1 p1
  refine ⟨c, os, ρ, μ1, r1, (Out.bind h1).imp (fun d2 μ2 h2 => ?_) fun _ _ q => q.mono e1⟩
  intro v2 H2 r2 e2 p2
  obtain ⟨k, e, h3⟩ := Out.ofO (Out.bind h2)
  obtain ⟨dk, ek, ek'⟩ := Option.bind_eq_some_iff.mp e
  refine hs r2 (p1.mono e2.vw) p2 ek (fun v3 H3 r3 e3 p3 => ?_)
  cases dk with
  | bl kk =>
    have z := p3.inv_bl
    subst z
    cases ek'
    refine ⟨k, rfl, ?_⟩
    have E3 := (e1.trans e2).trans e3
    cases k with
    | true =>
      rw [if_pos rfl]
      rw [if_pos rfl] at h3
      refine ⟨c, os, ρ, μ2, r3, (Out.bind h3).imp (fun d4 μ4 h4 => ?_) fun _ _ q => q.mono E3⟩
      intro v4 H4 r4 e4 p4
      obtain ⟨k2, e', h5⟩ := Out.ofO (Out.bind h4)
      obtain ⟨dk2, ek2, ek2'⟩ := Option.bind_eq_some_iff.mp e'
      refine hs' r4 (p2.mono (e3.trans e4).vw) p4 ek2 (fun v5 H5 r5 e5 p5 => ?_)
      cases dk2 with
      | bl kk2 =>
        have z := p5.inv_bl
        subst z
        cases ek2'
        refine ⟨k2, rfl, ?_⟩
        have E5 := (E3.trans e4).trans e5
        cases k2 with
        | true =>
          rw [if_pos rfl]
          rw [if_pos rfl] at h5
          refine ⟨c, os, ρ, μ4, r5, (Out.bind h5).imp (fun d6 μ6 h6 => ?_) fun _ _ q => q.mono E5⟩
          intro v6 H6 r6 e6 p6
          obtain ⟨d, e'', h7⟩ := Out.ofO h6
          exact hs'' r6 (p4.mono (e5.trans e6).vw) p6 e'' (VOk.mono (E5.trans e6) h7)
        | false =>
          rw [if_neg Bool.false_ne_true]
          rw [if_neg Bool.false_ne_true] at h5
          exact VOk.same (VOk.mono E5 h5) r5 (.bl false)
      | _ => cases ek2'
    | false =>
      rw [if_neg Bool.false_ne_true]
      rw [if_neg Bool.false_ne_true] at h3
      exact VOk.same (VOk.mono E3 h3) r3 (.bl false)
  | _ => cases ek'
theorem dChain3 {op op' op'' : CmpOp} {r r' r'' : R2} {g g' g'' : D → D → Option D} (ho : OpR X (compareOp op) r) (hs : Op2 X.K r g) (ho' : OpR X (compareOp op') r') (hs' : Op2 X.K r' g') (ho'' : OpR X (compareOp op'') r'') (hs'' : Op2 X.K r'' g'') (ha : PE X a (tE X.K cl W f1)) (hb : PE X b (tE X.K cl W f2)) (hc : PE X c (tE X.K cl W f3)) (hd : PE X d (tE X.K cl W f4))
    (hm : lastMarks [op, op', op''] [b, c, d] = false := by with_unfolding_all rfl) : PE X (.Compare a [op, op', op''] [b, c, d] pos) (tE X.K cl W (xChain3 g g' g'' f1 f2 f3 f4)) := pe_imp (pe_chain3 ho ho' ho'' ha hb hc hd hm) (chain3_imp hs hs' hs'')
theorem bChain3 {op op' op'' : CmpOp} {r r' r'' : R2} {g g' g'' : D → D → Option D} (ho : OpR X (compareOp op) r) (hs : Op2 X.K r g) (ho' : OpR X (compareOp op') r') (hs' : Op2 X.K r' g') (ho'' : OpR X (compareOp op'') r'') (hs'' : Op2 X.K r'' g'') (ha : PE X a (tE X.K cl W f1)) (hb : PE X b (tE X.K cl W f2)) (hc : PE X c (tE X.K cl W f3)) (hd : PE X d (tE X.K cl W f4))
    (hm : lastMarks [op, op', op''] [b, c, d] = false := by with_unfolding_all rfl) : PT X (.Compare a [op, op', op''] [b, c, d] pos) (tT X.K cl W (bVal (xChain3 g g' g'' f1 f2 f3 f4))) := pt_imp (pt_chain3 ho ho' ho'' ha hb hc hd hm) (val_imp (chain3_imp hs hs' hs''))
end
end DC
set_option Elab.async false
set_option linter.all false
set_option maxRecDepth 100000
set_option maxHeartbeats 2000000
/-! DC: own lists read, values to several names, what bears nothing. -/
namespace DC
open PySem PySem.Spec PyProof.Rows L2
/-- x[k], x perhaps an own list -/
def xIxO (i : Nat) (f2 : XD) : XD := fun ρ μ => match ρ[i]? with
  | some (.ow (.lst xs)) => (f2 ρ μ).bind fun b μ2 => match b with
    | .int k => Res.ofO (atI xs k) μ2
    | _ => .fail
  | _ => xIx (xVar i) f2 ρ μ
/-- the value to a target of several names -/
def sAsgG (f : XD) (g : Tg) : SD := fun ρ μ => (f ρ μ).st ρ fun d μ' => match g d ρ with
  | some ρ' => .nx ρ' μ'
  | none => .fail
section
variable {X : Cx} {cl : Nat → Addr} {W : WX} {fr : Bool} {f f2 : XD} {a b : Expr} {pos : Pos} {s0 : Stmt} {is : List Nat} {g : Tg}
theorem pe_orE {e : Expr} {t t' : TE} (h : PE X e t) (h' : PE X e t') : PE X e (fun σ H Q => t σ H Q ∨ t' σ H Q) := ⟨fun pins s σ H Q I q => q.elim (h.run pins s σ H Q I) (h'.run pins s σ H Q I)⟩
theorem ix_lstO (d1 : List D) {c : Ct} {os : List (Option Addr)} {ρ : Env} {μ : Store} {σ : L2.St} {H : Hp} {i : Nat} {k : Int} {d : D} (r : Rl X.K c os ρ μ σ H) (e0 : ρ[i]? = some (.ow (.lst d1))) (e : atI d1 k = some d) : ∃ p xs v, σ[i]? = some (some (.ref p)) ∧ H p = some (.lst xs) ∧ atI xs k = some v ∧ Rp X.K c.T (vw c os H) v d := by
  obtain ⟨p, g1, g2, g3⟩ := r.getOw e0
  cases g3 with
  | lst q kr =>
    obtain ⟨v, h1, h2⟩ := kr.atI e
    exact ⟨p, _, v, g1, q, h1, h2⟩
theorem dIxO {i : Nat} {x : Str} {p : Pos} (hv : PE X (.Name x p) (tVar i)) (hb : PE X b (tE X.K cl W f2)) (hs : PlainIx b) : PE X (.Subscript (.Name x p) b pos) (tE X.K cl W (xIxO i f2)) :=
  pe_imp (pe_orE (pe_ix ix_seq hv hb hs) (dIx (cl := cl) (W := W) (dVar hv) hb hs)) fun σ H Q => by
  rintro ⟨c, os, ρ, μ, r, h⟩
  unfold xIxO at h
  split at h
  · rename_i xs e0
    refine .inl ?_
    obtain ⟨p, g1, g2, g3⟩ := r.getOw e0
    refine ⟨.ref p, g1, c, os, ρ, μ, r, (Out.bind h).imp (fun d2 μ2 h2 => ?_) fun _ _ q => q⟩
    intro v2 H2 r2 e2 p2
    cases d2 with
    | int k =>
      obtain ⟨d, e, h3⟩ := Out.ofO h2
      obtain ⟨p', ys, v, q1, q2, q3, q4⟩ := ix_lstO xs r2 e0 e
      have ea : p' = p := by
        rw [g1] at q1
        have := Option.some.inj (Option.some.inj q1)
        cases this; rfl
      subst ea
      exact .inl ⟨p', ys, k, v, rfl, p2.inv_int, .inl (.inl q2), q3, VOk.same (VOk.mono e2 h3) r2 q4⟩
    | _ => exact h2.elim
  · exact .inr ⟨c, os, ρ, μ, r, h⟩
theorem hAsgG (h : PS X s0 (tAsg (tE X.K cl W f) (tG X.K is g))) : PS X s0 (tS X.K cl W fr (sAsgG f g)) := ps_imp h fun E σ H => by
  rintro ⟨c, os, ρ, μ, r, h⟩
  refine ⟨c, os, ρ, μ, r, (SOut.st h).imp (fun d μ1 h1 => ?_) fun _ _ q => q⟩
  intro v1 H1 r1 e1 p1
  split at h1
  · rename_i ρ' eg
    exact ⟨c, os, ρ, μ1, d, ρ', r1, p1, eg, fun os' σ' r' _ => h1 os' σ' H1 r'⟩
  · exact h1.elim
end
/-! ### what bears nothing -/
theorem pl_bind {α β : Type} {f : Env → Store → Res α} {k : Env → α → Env → Store → Res β} (hf : Plain f) (hk : ∀ ρ a, Plain (k ρ a)) : Plain fun ρ μ => (f ρ μ).bind fun a μ1 => k ρ a ρ μ1 := fun ρ μ x μ' h => by
  have h' : (f ρ μ).bind (fun a μ1 => k ρ a ρ μ1) = .exc x μ' := h
  cases e : f ρ μ with
  | fail => rw [e] at h'; cases h'
  | exc y μ1 =>
    rw [e] at h'
    cases h'
    exact hf _ _ _ _ e
  | ok a μ1 =>
    rw [e] at h'
    exact hk ρ a ρ μ1 x μ' h'
theorem pl_ofO {α : Type} {o : Option α} : Plain fun _ μ => Res.ofO o μ := fun ρ μ x μ' h => by
  cases o <;> cases h
theorem pl_ok {α : Type} {a : α} : Plain fun _ μ => Res.ok a μ := fun ρ μ x μ' h => by cases h
theorem pl_fail {α : Type} : Plain fun _ _ => (Res.fail : Res α) := fun ρ μ x μ' h => by cases h
theorem pl_ite {α : Type} {c : Prop} [Decidable c] {f g : Env → Store → Res α} (hf : Plain f) (hg : Plain g) : Plain fun ρ μ => if c then f ρ μ else g ρ μ := fun ρ μ x μ' h => by
  have h' : (if c then f ρ μ else g ρ μ) = .exc x μ' := h
  split at h'
  · exact hf _ _ _ _ h'
  · exact hg _ _ _ _ h'
theorem pl_C (d : D) : Plain (xC d) := pl_ok
theorem pl_Var (i : Nat) : Plain (xVar i) := fun ρ μ x μ' h => by
  unfold xVar at h
  split at h <;> cases h
theorem pl_Bin {g : D → D → Option D} {f1 f2 : XD} (h1 : Plain f1) (h2 : Plain f2) : Plain (xBin g f1 f2) :=
  pl_bind (k := fun _ a ρ μ1 => (f2 ρ μ1).bind fun b μ2 => Res.ofO (g a b) μ2) h1 fun _ a => pl_bind (k := fun _ b _ μ2 => Res.ofO (g a b) μ2) h2 fun _ _ => pl_ofO
theorem pl_Un {g : D → Option D} {f : XD} (h1 : Plain f) : Plain (xUn g f) := pl_bind (k := fun _ a _ μ1 => Res.ofO (g a) μ1) h1 fun _ _ => pl_ofO
theorem pl_lNil : Plain lNil := pl_ok
theorem pl_lCons {f : XD} {fs : XL} (h1 : Plain f) (h2 : Plain fs) : Plain (lCons f fs) :=
  pl_bind (k := fun _ d ρ μ1 => (fs ρ μ1).bind fun ds μ2 => .ok (d :: ds) μ2) h1 fun _ d => pl_bind (k := fun _ ds _ μ2 => .ok (d :: ds) μ2) h2 fun _ _ => pl_ok
theorem pl_Lst {fs : XL} (h : Plain fs) : Plain (xLst fs) := pl_bind (k := fun _ ds _ μ1 => if lenOk ds then Res.ok (D.lst ds) μ1 else Res.fail) h fun _ ds => pl_ite pl_ok pl_fail
theorem pl_Tup {fs : XL} (h : Plain fs) : Plain (xTup fs) := pl_bind (k := fun _ ds _ μ1 => if lenOk ds then Res.ok (D.tup ds) μ1 else Res.fail) h fun _ ds => pl_ite pl_ok pl_fail
theorem pl_NewK : Plain xNewK := pl_ok
theorem pl_NewT : Plain xNewT := pl_ok
theorem pl_Disp1 {k : Key} {d : D} : Plain (xDisp1 k d) := pl_ok
theorem pl_mNil : Plain mNil := pl_ok
theorem pl_mVal {f : XD} {fs : XM} (h1 : Plain f) (h2 : Plain fs) : Plain (mVal f fs) :=
  pl_bind (k := fun _ d ρ μ1 => (fs ρ μ1).bind fun ds μ2 => .ok ((false, d) :: ds) μ2) h1 fun _ d => pl_bind (k := fun _ ds _ μ2 => .ok ((false, d) :: ds) μ2) h2 fun _ _ => pl_ok
theorem pl_mNew {f : XD} {fs : XM} (h1 : Plain f) (h2 : Plain fs) : Plain (mNew f fs) :=
  pl_bind (k := fun _ d ρ μ1 => (fs ρ μ1).bind fun ds μ2 => .ok ((true, d) :: ds) μ2) h1 fun _ d => pl_bind (k := fun _ ds _ μ2 => .ok ((true, d) :: ds) μ2) h2 fun _ _ => pl_ok
theorem pl_Cb {g : List D → Option D} {fs : XL} (h : Plain fs) : Plain (xCb g fs) := pl_bind (k := fun _ ds _ μ1 => Res.ofO (g ds) μ1) h fun _ _ => pl_ofO
theorem pl_Ix {f1 f2 : XD} (h1 : Plain f1) (h2 : Plain f2) : Plain (xIx f1 f2) :=
  pl_bind (k := fun _ a ρ μ1 => (f2 ρ μ1).bind fun b μ2 => Res.ofO (ixS μ2 a b) μ2) h1 fun _ a => pl_bind (k := fun _ b _ μ2 => Res.ofO (ixS μ2 a b) μ2) h2 fun _ b => fun ρ μ x μ' e => pl_ofO (o := ixS μ a b) ρ μ x μ' e
theorem pl_GetK {f1 f2 : XD} (h1 : Plain f1) (h2 : Plain f2) : Plain (xGetK f1 f2) :=
  pl_bind (k := fun _ a ρ μ1 => (f2 ρ μ1).bind fun b μ2 => Res.ofO (getK a b) μ2) h1 fun _ a => pl_bind (k := fun _ b _ μ2 => Res.ofO (getK a b) μ2) h2 fun _ b => pl_ofO
theorem pl_Get2K {f1 f2 f3 : XD} (h1 : Plain f1) (h2 : Plain f2) (h3 : Plain f3) : Plain (xGet2K f1 f2 f3) := fun ρ μ x μ' h => by
  unfold xGet2K at h
  cases e : f1 ρ μ with
  | fail => rw [e] at h; cases h
  | exc y μ1 => rw [e] at h; cases h; exact h1 _ _ _ _ e
  | ok a μ1 =>
    rw [e] at h
    cases a with
    | dk ks vs => exact pl_bind (k := fun _ b ρ μ2 => (f3 ρ μ2).bind fun x μ3 => Res.ofO (get2K (D.dk ks vs) b x) μ3) h2 (fun _ b => pl_bind (k := fun _ x _ μ3 => Res.ofO (get2K (D.dk ks vs) b x) μ3) h3 fun _ _ => pl_ofO) ρ μ1 x μ' h
    | _ => cases h
theorem pl_GetT {f1 : XD} {fs : XL} (h1 : Plain f1) (h2 : Plain fs) : Plain (xGetT f1 fs) :=
  pl_bind (k := fun _ a ρ μ1 => (fs ρ μ1).bind fun bs μ2 => if lenOk bs then Res.ofO (getT a bs) μ2 else .fail) h1 fun _ a => pl_bind (k := fun _ bs _ μ2 => if lenOk bs then Res.ofO (getT a bs) μ2 else .fail) h2 fun _ bs => pl_ite pl_ofO pl_fail
theorem pl_Get2T {f1 f3 : XD} {fs : XL} (h1 : Plain f1) (h2 : Plain fs) (h3 : Plain f3) : Plain (xGet2T f1 fs f3) := fun ρ μ x μ' h => by
  unfold xGet2T at h
  cases e : f1 ρ μ with
  | fail => rw [e] at h; cases h
  | exc y μ1 => rw [e] at h; cases h; exact h1 _ _ _ _ e
  | ok a μ1 =>
    rw [e] at h
    cases a with
    | dt ks vs => exact pl_bind (k := fun _ bs ρ μ2 => if lenOk bs then (f3 ρ μ2).bind fun x μ3 => Res.ofO (get2T (D.dt ks vs) bs x) μ3 else Res.fail) h2 (fun _ bs => pl_ite (pl_bind (k := fun _ x _ μ3 => Res.ofO (get2T (D.dt ks vs) bs x) μ3) h3 fun _ _ => pl_ofO) pl_fail) ρ μ1 x μ' h
    | _ => cases h
/-! ### a def at no fuel -/
theorem ok0 {P : Program} {w : World} {K : PySem.W.Frag} {mg : Str → Option Value} {base : Heap} {cl : Nat → Addr} {x qual : Str} {st : Stmt} {f : Addr} {fd : FuncData} {N ps : List Str} {k : Nat} (F : Fun K x qual st f fd) (S : FnScope N ps (defScope st)) :
    FnOk P w K mg base (L2.CX P w) (k + 1) f fd ps (SpD K cl ps.length fun _ _ => .fail) :=
  F.okX S (fun vs H Q E h => by obtain ⟨A, T, μ, ds, r, p, hl, h⟩ := h; exact h.elim) fun cdv A outer s H vs Q E hr h => by
    obtain ⟨A, T, μ, ds, r, p, hl, h⟩ := h; exact h.elim
end DC
namespace DC
open PySem PySem.Spec PyProof.Rows L2
section
variable {X : Cx} {cl : Nat → Addr} {W : WX} {fr : Bool} {s0 : Stmt} {is : List Nat} {g : Tg} {b : List Stmt} {F : SD}
theorem tE_tF {K : PySem.W.Frag} {f : XD} {σ : L2.St} {H : Hp} {Q : VK} (h : tE K cl W f σ H Q) : tF K cl W f σ H Q := by
  obtain ⟨c, os, ρ, μ, r, h⟩ := h
  exact ⟨c, os, ρ, μ, r, h.imp (fun d μ' q => q.f) fun _ _ q => q⟩
/-- x = [.. for ..], the list never changed -/
theorem hAsgLcV {i : Nat} {f : XL} {t : XB} {fe : XD} {vs : List Nat} (h : PS X s0 (tAsg (tLc (tI X.K cl W f) (tG X.K is g) (tT X.K cl W0 t) (tE X.K cl W0 fe) vs) (gName i))) (hv : ∀ i ∈ is, i ∈ vs := by decide) : PS X s0 (tS X.K cl W fr (sAsg i (xLc f g t fe vs))) :=
  hAsg (ps_imp h fun E σ H q => lc_imp hv σ H _ (tE_tF q))
theorem hSeqF (h : PSs X b (tS X.K cl W fr F)) : PSs X b (tS X.K cl W fr (sSeq F sFail)) := pss_imp h fun E σ H => by
  rintro ⟨c, os, ρ, μ, r, h⟩
  refine ⟨c, os, ρ, μ, r, ?_⟩
  unfold sSeq at h
  cases e : F ρ μ with
  | nx ρ' μ' => rw [e] at h; exact h.elim
  | rt d μ' => rw [e] at h; exact h
  | bk ρ' μ' => rw [e] at h; exact h
  | ct ρ' μ' => rw [e] at h; exact h
  | exc x ρ' μ' => rw [e] at h; exact h
  | fail => rw [e] at h; exact h
end
end DC
namespace DC
open PySem PySem.Spec PyProof.Rows L2
section
variable {P : Program} {w : World} {K : PySem.W.Frag} {mg : Str → Option Value} {base : Heap} {cl : Nat → Addr}
theorem okD2 {x qual : Str} {st : Stmt} {f : Addr} {fd : FuncData} {N ps : List Str} {k np n : Nat} (FB : SD) (F : Fun K x qual st f fd) (S : FnScope N ps (defScope st)) (h1 : ps.length = np) (h2 : N.length = n) (hn : np ≤ n)
    (hb : ∀ (cdv : Value) (A : Around) (outer : List PySem.Env) (s : Shared) (H : Hp) (E : XK), Room k (A.deeper (envOfC qual (defScope st) s.heap.objs.size f cdv)) →
      PSs (cxOf (L2.CX P w) P w K mg base N qual (defScope st) f cdv A outer s H E) (defBody st) (tS K cl (WE0 E) false FB)) : FnOk P w K mg base (L2.CX P w) (k + 1) f fd ps (SpD K cl np (bodyD FB n)) := by
  subst h1 h2
  exact okD F S hn hb
theorem okF2 {x qual : Str} {st : Stmt} {f : Addr} {fd : FuncData} {N ps : List Str} {k np n : Nat} (FB : SD) (F : Fun K x qual st f fd) (S : FnScope N ps (defScope st)) (h1 : ps.length = np) (h2 : N.length = n) (hn : np ≤ n)
    (hb : ∀ (cdv : Value) (A : Around) (outer : List PySem.Env) (s : Shared) (H : Hp) (E : XK), Room k (A.deeper (envOfC qual (defScope st) s.heap.objs.size f cdv)) →
      PSs (cxOf (L2.CX P w) P w K mg base N qual (defScope st) f cdv A outer s H E) (defBody st) (tS K cl (WE0 E) true (sSeq FB sFail))) : FnOk P w K mg base (L2.CX P w) (k + 1) f fd ps (SpF K cl np (bodyF FB n)) := by
  subst h1 h2
  exact okF F S hn hb
theorem ok02 {x qual : Str} {st : Stmt} {f : Addr} {fd : FuncData} {N ps : List Str} {k np : Nat} (F : Fun K x qual st f fd) (S : FnScope N ps (defScope st)) (h1 : ps.length = np) :
    FnOk P w K mg base (L2.CX P w) (k + 1) f fd ps (SpD K cl np fun _ _ => .fail) := by
  subst h1
  exact ok0 F S
end
end DC
namespace DC
open PySem PySem.Spec PyProof.Rows L2
section
variable {X : Cx}
theorem call_sumA (hc : X.calm = true) : CallR X (.builtin "sum") (fun vs H Q => rSum X.K vs H Q ∨ ∃ (a : Addr) (ns : List Int), vs = [V.ref a] ∧ SqT X.K H a (ns.map V.int) ∧ Q (.int ns.sum) H) := L2.CallR.or (cr_sum hc) (call_sumT hc)
theorem call_sortA (hc : X.calm = true) : CallR X (.builtin "sorted") (fun xs H Q => rSortedI X.K xs H Q ∨ (rSortedDI xs H Q ∨ rSortedDT xs H Q)) := L2.CallR.or cr_sortedI (L2.CallR.or (call_sortedDI hc) (call_sortedDT hc))
end
end DC
set_option Elab.async false
set_option linter.all false
set_option maxRecDepth 100000
set_option maxHeartbeats 4000000
namespace K75
open PySem PySem.Spec PyProof.Rows L2 DC
def topS (i : Nat) : Stmt := PySem.Challenge.pw_exacttests_k75_whole_plans_and_rows.main.body.getD i (.Pass ⟨0, 0, 0, 0⟩)
abbrev st__law_cup : Stmt := topS 27
theorem sc__law_cup : FnScope ["script", "cell"] ["script"] (defScope st__law_cup) := ⟨rfl, rfl, rfl, by decide +kernel, rfl, by decide +kernel, by decide +kernel⟩
def F__law_cup : SD := (sSeq (sAsg 1 (xCb absD (lCons (xIx (xBin addD (xCb listD (lCons (xVar 0) lNil)) (xLst (lCons (xC (.int 0)) lNil))) (xC (.int 0))) lNil)))
    (sRet (xLst (lCons (xIf (bVal (xBin geD (xVar 1) (xBin powD (xC (.int 10)) (xC (.int 18))))) (xBin divD (xVar 1) (xC (.int 73))) (xC (.int 0))) (lCons (xBin addD (xBin modD (xCb intD (lCons (xBin addD (xBin mulD (xVar 1) (xC (.int 283))) (xC (.int 3907))) lNil)) (xC (.int 2077503167))) (xC (.int 167))) lNil)))))
def g__law_cup : List D → Store → Res D := bodyF F__law_cup 2
abbrev st__law_roll : Stmt := topS 28
theorem sc__law_roll : FnScope ["cup", "many", "found", "deep"] ["cup", "many"] (defScope st__law_roll) := ⟨rfl, rfl, rfl, by decide +kernel, rfl, by decide +kernel, by decide +kernel⟩
def F__law_roll : SD := (sSeq (sIf (bVal (xBin gtD (xIx (xVar 0) (xC (.int 0))) (xC (.int 0)))) (sSeq (sAsg 2 (xBin modD (xCb intD (lCons (xIx (xVar 0) (xC (.int 0))) lNil)) (xVar 1)))
    (sSeq (sSetI 0 (xC (.int 0)) (xBin divD (xIx (xVar 0) (xC (.int 0))) (xVar 1)))
    (sRet (xVar 2)))) sNext)
    (sSeq (sSetI 0 (xC (.int 1)) (xBin modD (xCb intD (lCons (xBin addD (xBin mulD (xIx (xVar 0) (xC (.int 1))) (xC (.int 31051))) (xC (.int 7993))) lNil)) (xC (.int 2147483543))))
    (sSeq (sAsg 3 (xBin modD (xCb intD (lCons (xBin mulD (xIx (xVar 0) (xC (.int 1))) (xBin addD (xIx (xVar 0) (xC (.int 1))) (xC (.int 229)))) lNil)) (xC (.int 2147483587))))
    (sRet (xBin modD (xCb intD (lCons (xBin divD (xVar 3) (xC (.int 821))) lNil)) (xVar 1))))))
def g__law_roll : List D → Store → Res D := bodyD F__law_roll 4
abbrev st__law_sort : Stmt := topS 30
theorem sc__law_sort : FnScope ["value"] ["value"] (defScope st__law_sort) := ⟨rfl, rfl, rfl, by decide +kernel, rfl, by decide +kernel, by decide +kernel⟩
def F__law_sort : SD := (sSeq (sIf (bOr (bVal (xBin isN (xVar 0) (xC .non))) (bVal (xUn (isiD Ty.bool) (xVar 0)))) (sRet (xIf (bVal (xBin isN (xVar 0) (xC .non))) (xC (.int 0)) (xC (.int 1)))) sNext)
    (sSeq (sIf (bOr (bVal (xUn (isiD Ty.int) (xVar 0))) (bVal (xUn (isiD Ty.str) (xVar 0)))) (sRet (xIf (bVal (xUn (isiD Ty.int) (xVar 0))) (xC (.int 2)) (xC (.int 3)))) sNext)
    (sRet (xIf (bVal (xUn (isiD Ty.tuple) (xVar 0))) (xC (.int 4)) (xIf (bVal (xUn (isiD Ty.list) (xVar 0))) (xC (.int 5)) (xC (.int 6)))))))
def g__law_sort : List D → Store → Res D := bodyD F__law_sort 1
abbrev st__law_like : Stmt := topS 31
theorem sc__law_like : FnScope ["one", "other", "sort", "first", "second"] ["one", "other"] (defScope st__law_like) := ⟨rfl, rfl, rfl, by decide +kernel, rfl, by decide +kernel, by decide +kernel⟩
abbrev C__law_like_1 (self : List D → Store → Res D) : XD := (xLc (wZipA (lCons (xVar 0) (lCons (xVar 1) lNil))) (gT (gC (gN 3) (gC (gN 4) gE))) (bNot (bVal (xCall self (lCons (xVar 3) (lCons (xVar 4) lNil))))) (xC (.int 1)) [3, 4])
def F__law_like (self : List D → Store → Res D) : SD := (sSeq (sAsg 2 (xCall g__law_sort (lCons (xVar 1) lNil)))
    (sSeq (sIf (bOr (bVal (xBin neD (xCall g__law_sort (lCons (xVar 0) lNil)) (xVar 2))) (bVal (xBin eqD (xVar 2) (xC (.int 6))))) (sRet (xC (.bl false))) sNext)
    (sSeq (sIf (bVal (xBin (inSq false) (xVar 2) (xTup (lCons (xC (.int 4)) (lCons (xC (.int 5)) lNil))))) (sRet (xAnd (xBin eqD (xCb lenD (lCons (xVar 0) lNil)) (xCb lenD (lCons (xVar 1) lNil))) (xBin eqD (C__law_like_1 self) (xLst lNil)))) sNext)
    (sRet (xBin eqD (xVar 0) (xVar 1))))))
def g__law_like : Nat → List D → Store → Res D
  | 0 => fun _ _ => .fail
  | n + 1 => bodyD (F__law_like (g__law_like n)) 5
abbrev st_is_tuple_of : Stmt := topS 9
theorem sc_is_tuple_of : FnScope ["value", "low", "high"] ["value", "low", "high"] (defScope st_is_tuple_of) := ⟨rfl, rfl, rfl, by decide +kernel, rfl, by decide +kernel, by decide +kernel⟩
def F_is_tuple_of : SD := (sRet (xAnd (xUn (isiD Ty.tuple) (xVar 0)) (xChain leD leD (xVar 1) (xCb lenD (lCons (xVar 0) lNil)) (xVar 2))))
def g_is_tuple_of : List D → Store → Res D := bodyD F_is_tuple_of 3
abbrev st_is_integer : Stmt := topS 6
theorem sc_is_integer : FnScope ["value"] ["value"] (defScope st_is_integer) := ⟨rfl, rfl, rfl, by decide +kernel, rfl, by decide +kernel, by decide +kernel⟩
def F_is_integer : SD := (sRet (xAnd (xUn (isiD Ty.int) (xVar 0)) (xNot (xUn (isiD Ty.bool) (xVar 0)))))
def g_is_integer : List D → Store → Res D := bodyD F_is_integer 1
abbrev st_is_whole : Stmt := topS 7
theorem sc_is_whole : FnScope ["value", "low", "high"] ["value", "low", "high"] (defScope st_is_whole) := ⟨rfl, rfl, rfl, by decide +kernel, rfl, by decide +kernel, by decide +kernel⟩
def F_is_whole : SD := (sRet (xAnd (xCall g_is_integer (lCons (xVar 0) lNil)) (xChain leD leD (xVar 1) (xVar 0) (xVar 2))))
def g_is_whole : List D → Store → Res D := bodyD F_is_whole 3
abbrev st_fits_bounds : Stmt := topS 16
theorem sc_fits_bounds : FnScope ["value", "bound"] ["value"] (defScope st_fits_bounds) := ⟨rfl, rfl, rfl, by decide +kernel, rfl, by decide +kernel, by decide +kernel⟩
abbrev C_fits_bounds_1 : XD := (xLc (iSeq (xVar 0)) (gN 1) bTrue (xCall g_is_whole (lCons (xVar 1) (lCons (xC (.int (-1))) (lCons (xC (.int 41)) lNil)))) [1])
def F_fits_bounds : SD := (sSeq (sIf (bOr (bNot (bVal (xCall g_is_tuple_of (lCons (xVar 0) (lCons (xC (.int 2)) (lCons (xC (.int 2)) lNil)))))) (bNot (bVal (xCb allD (lCons C_fits_bounds_1 lNil))))) (sRet (xC (.bl false))) sNext)
    (sRet (xBin ltD (xIx (xVar 0) (xC (.int 0))) (xIx (xVar 0) (xC (.int 1))))))
def g_fits_bounds : List D → Store → Res D := bodyD F_fits_bounds 2
abbrev st_fits_end_plan : Stmt := topS 17
theorem sc_fits_end_plan : FnScope ["value", "bounds"] ["value"] (defScope st_fits_end_plan) := ⟨rfl, rfl, rfl, by decide +kernel, rfl, by decide +kernel, by decide +kernel⟩
abbrev C_fits_end_plan_1 : XD := (xLc (iSeq (xVar 0)) (gN 1) bTrue (xCall g_fits_bounds (lCons (xVar 1) lNil)) [1])
def F_fits_end_plan : SD := (sSeq (sIf (bOr (bNot (bVal (xCall g_is_tuple_of (lCons (xVar 0) (lCons (xC (.int 1)) (lCons (xC (.int 40)) lNil)))))) (bNot (bVal (xCb allD (lCons C_fits_end_plan_1 lNil))))) (sRet (xC (.bl false))) sNext)
    (sRet (xBin eqD (xIx (xIx (xVar 0) (xUn negD (xC (.int 1)))) (xC (.int 1))) (xBin addD (xIx (xIx (xVar 0) (xUn negD (xC (.int 1)))) (xC (.int 0))) (xC (.int 1))))))
def g_fits_end_plan : List D → Store → Res D := bodyD F_fits_end_plan 2
abbrev st_is_end_plan : Stmt := topS 22
theorem sc_is_end_plan : FnScope ["value"] ["value"] (defScope st_is_end_plan) := ⟨rfl, rfl, rfl, by decide +kernel, rfl, by decide +kernel, by decide +kernel⟩
def F_is_end_plan : SD := (sRet (xCall g_fits_end_plan (lCons (xVar 0) lNil)))
def g_is_end_plan : List D → Store → Res D := bodyD F_is_end_plan 1
abbrev st_need_end_plan : Stmt := topS 18
theorem sc_need_end_plan : FnScope ["value"] ["value"] (defScope st_need_end_plan) := ⟨rfl, rfl, rfl, by decide +kernel, rfl, by decide +kernel, by decide +kernel⟩
def F_need_end_plan : SD := (sIf (bNot (bVal (xCall g_fits_end_plan (lCons (xVar 0) lNil)))) sFail sNext)
def g_need_end_plan : List D → Store → Res D := bodyD F_need_end_plan 1
abbrev st_end_of : Stmt := topS 19
theorem sc_end_of : FnScope ["plan", "row", "ups", "at", "sign"] ["plan", "row"] (defScope st_end_of) := ⟨rfl, rfl, rfl, by decide +kernel, rfl, by decide +kernel, by decide +kernel⟩
abbrev L_end_of_1 : SD := (sSeq (sAsg 2 (xBin addD (xVar 2) (xBin eqD (xVar 4) (xC (.str "u")))))
    (sIf (bOr (bVal (xBin leD (xVar 2) (xIx (xIx (xVar 0) (xVar 3)) (xC (.int 0))))) (bVal (xBin geD (xVar 2) (xIx (xIx (xVar 0) (xVar 3)) (xC (.int 1)))))) (sRet (xTup (lCons (xBin addD (xVar 3) (xC (.int 1))) (lCons (xIf (bVal (xBin leD (xVar 2) (xIx (xIx (xVar 0) (xVar 3)) (xC (.int 0))))) (xC (.str "down")) (xC (.str "up"))) lNil)))) sNext))
def F_end_of : SD := (sSeq (sAsg 2 (xC (.int 0)))
    (sSeq (sFor (wEnumA (xVar 1)) (gT (gC (gN 3) (gC (gN 4) gE))) L_end_of_1)
    (sRet (xC .non))))
def g_end_of : List D → Store → Res D := bodyD F_end_of 5
abbrev st_is_word : Stmt := topS 10
theorem sc_is_word : FnScope ["value", "signs", "low", "high", "sign"] ["value", "signs", "low", "high"] (defScope st_is_word) := ⟨rfl, rfl, rfl, by decide +kernel, rfl, by decide +kernel, by decide +kernel⟩
abbrev C_is_word_1 : XD := (xLc (iSeq (xVar 0)) (gN 4) bTrue (xBin inStr (xVar 4) (xVar 1)) [4])
def F_is_word : SD := (sRet (xAnd (xUn (isiD Ty.str) (xVar 0)) (xAnd (xChain leD leD (xVar 2) (xCb lenD (lCons (xVar 0) lNil)) (xVar 3)) (xCb allD (lCons C_is_word_1 lNil)))))
def g_is_word : List D → Store → Res D := bodyD F_is_word 5
abbrev st_end_of_row : Stmt := topS 23
theorem sc_end_of_row : FnScope ["plan", "row"] ["plan", "row"] (defScope st_end_of_row) := ⟨rfl, rfl, rfl, by decide +kernel, rfl, by decide +kernel, by decide +kernel⟩
def F_end_of_row : SD := (sSeq (sExpr (xCall g_need_end_plan (lCons (xVar 0) lNil)))
    (sSeq (sIf (bNot (bVal (xCall g_is_word (lCons (xVar 1) (lCons (xC (.str "ud")) (lCons (xC (.int 0)) (lCons (xCb lenD (lCons (xVar 0) lNil)) lNil))))))) sFail sNext)
    (sRet (xCall g_end_of (lCons (xVar 0) (lCons (xVar 1) lNil))))))
def g_end_of_row : List D → Store → Res D := bodyD F_end_of_row 2
abbrev st_layers_of_plan : Stmt := topS 20
theorem sc_layers_of_plan : FnScope ["plan", "opened", "ended", "low", "high", "ahead", "here", "one", "other", "ups", "ways"] ["plan"] (defScope st_layers_of_plan) := ⟨rfl, rfl, rfl, by decide +kernel, rfl, by decide +kernel, by decide +kernel⟩
abbrev C_layers_of_plan_1 : XD := (xLc (wZipA (lCons (xBin addD (xVar 5) (xLst (lCons (xC (.int 0)) lNil))) (lCons (xBin addD (xLst (lCons (xC (.int 0)) lNil)) (xVar 5)) lNil))) (gT (gC (gN 7) (gC (gN 8) gE))) bTrue (xBin addD (xVar 7) (xVar 8)) [7, 8])
abbrev C_layers_of_plan_2 : XD := (xLc (wEnumA (xVar 6)) (gT (gC (gN 9) (gC (gN 10) gE))) bTrue (xIf (bVal (xChain ltD ltD (xVar 3) (xVar 9) (xVar 4))) (xVar 10) (xC (.int 0))) [9, 10])
abbrev C_layers_of_plan_3 : XD := (xLc (wEnumA (xVar 6)) (gT (gC (gN 9) (gC (gN 10) gE))) bTrue (xIf (bVal (xChain ltD ltD (xVar 3) (xVar 9) (xVar 4))) (xC (.int 0)) (xVar 10)) [9, 10])
abbrev L_layers_of_plan_4 : SD := (sSeq (sAsg 5 (xIxO 1 (xUn negD (xC (.int 1)))))
    (sSeq (sAsg 6 C_layers_of_plan_1)
    (sSeq (sApp 1 C_layers_of_plan_2)
    (sApp 2 C_layers_of_plan_3))))
def F_layers_of_plan : SD := (sSeq (sPar [1, 2] (mNew (xLst (lCons (xLst (lCons (xC (.int 1)) lNil)) lNil)) (mNew (xLst lNil) mNil)))
    (sSeq (sFor (iSeq (xVar 0)) (gT (gC (gN 3) (gC (gN 4) gE))) L_layers_of_plan_4)
    (sFrz 2 (sFrz 1 (sRet (xTup (lCons (xVar 1) (lCons (xVar 2) lNil))))))))
def g_layers_of_plan : List D → Store → Res D := bodyD F_layers_of_plan 11
abbrev st_points_in_plan : Stmt := topS 21
theorem sc_points_in_plan : FnScope ["plan", "found", "at", "row", "ups", "ways"] ["plan"] (defScope st_points_in_plan) := ⟨rfl, rfl, rfl, by decide +kernel, rfl, by decide +kernel, by decide +kernel⟩
abbrev C_points_in_plan_1 : XD := (xLc (wEnumA (xVar 3)) (gT (gC (gN 4) (gC (gN 5) gE))) (bVal (xBin gtD (xVar 5) (xC (.int 0)))) (xTup (lCons (xBin addD (xVar 2) (xC (.int 1))) (lCons (xVar 4) (lCons (xVar 5) lNil)))) [4, 5])
abbrev L_points_in_plan_2 : SD := (sAsg 1 (xBin addD (xVar 1) C_points_in_plan_1))
def F_points_in_plan : SD := (sSeq (sAsg 1 (xLst lNil))
    (sSeq (sFor (wEnumA (xIx (xCall g_layers_of_plan (lCons (xVar 0) lNil)) (xC (.int 1)))) (gT (gC (gN 2) (gC (gN 3) gE))) L_points_in_plan_2)
    (sRet (xVar 1))))
def g_points_in_plan : List D → Store → Res D := bodyD F_points_in_plan 6
abbrev st_end_points : Stmt := topS 24
theorem sc_end_points : FnScope ["plan"] ["plan"] (defScope st_end_points) := ⟨rfl, rfl, rfl, by decide +kernel, rfl, by decide +kernel, by decide +kernel⟩
def F_end_points : SD := (sSeq (sExpr (xCall g_need_end_plan (lCons (xVar 0) lNil)))
    (sRet (xCb tupleD (lCons (xCall g_points_in_plan (lCons (xVar 0) lNil)) lNil))))
def g_end_points : List D → Store → Res D := bodyD F_end_points 1
abbrev st_need_whole : Stmt := topS 8
theorem sc_need_whole : FnScope ["value", "low", "high"] ["value", "low", "high"] (defScope st_need_whole) := ⟨rfl, rfl, rfl, by decide +kernel, rfl, by decide +kernel, by decide +kernel⟩
def F_need_whole : SD := (sIf (bNot (bVal (xCall g_is_whole (lCons (xVar 0) (lCons (xVar 1) (lCons (xVar 2) lNil)))))) sFail sNext)
def g_need_whole : List D → Store → Res D := bodyD F_need_whole 3
abbrev st_open_counts : Stmt := topS 25
theorem sc_open_counts : FnScope ["plan", "many"] ["plan", "many"] (defScope st_open_counts) := ⟨rfl, rfl, rfl, by decide +kernel, rfl, by decide +kernel, by decide +kernel⟩
def F_open_counts : SD := (sSeq (sExpr (xCall g_need_end_plan (lCons (xVar 0) lNil)))
    (sSeq (sExpr (xCall g_need_whole (lCons (xVar 1) (lCons (xC (.int 0)) (lCons (xCb lenD (lCons (xVar 0) lNil)) lNil)))))
    (sRet (xCb tupleD (lCons (xIx (xIx (xCall g_layers_of_plan (lCons (xVar 0) lNil)) (xC (.int 0))) (xVar 1)) lNil)))))
def g_open_counts : List D → Store → Res D := bodyD F_open_counts 2
abbrev st__law_plan : Stmt := topS 34
theorem sc__law_plan : FnScope ["cup", "most", "many", "way", "found", "low", "own"] ["cup", "most"] (defScope st__law_plan) := ⟨rfl, rfl, rfl, by decide +kernel, rfl, by decide +kernel, by decide +kernel⟩
abbrev L__law_plan_1 : SD := (sSeq (sIf (bVal (xBin eqD (xVar 3) (xC (.int 0)))) (sAsg 5 (xCb min2D (lCons (xBin subD (xVar 6) (xC (.int 1))) (lCons (xBin addD (xVar 5) (xIf (bVal (xBin eqD (xCall g__law_roll (lCons (xVar 0) (lCons (xC (.int 3)) lNil))) (xC (.int 0)))) (xC (.int 1)) (xC (.int 0)))) lNil)))) sNext)
    (sSeq (sIf (bVal (xBin eqD (xVar 3) (xC (.int 1)))) (sAsg 5 (xBin subD (xCall g__law_roll (lCons (xVar 0) (lCons (xBin addD (xVar 6) (xC (.int 1))) lNil))) (xC (.int 1)))) sNext)
    (sSeq (sIf (bVal (xBin eqD (xVar 3) (xC (.int 2)))) (sAsg 5 (xIf (bVal (xBin gtD (xVar 6) (xC (.int 3)))) (xBin subD (xCb intD (lCons (xBin divD (xVar 6) (xC (.int 2))) lNil)) (xC (.int 2))) (xUn negD (xC (.int 1))))) sNext)
    (sApp 4 (xTup (lCons (xVar 5) (lCons (xIf (bVal (xBin ltD (xVar 6) (xVar 2))) (xCb min2D (lCons (xC (.int 41)) (lCons (xBin addD (xBin addD (xVar 5) (xC (.int 2))) (xCall g__law_roll (lCons (xVar 0) (lCons (xC (.int 4)) lNil)))) lNil))) (xBin addD (xVar 5) (xC (.int 1)))) lNil)))))))
def F__law_plan : SD := (sSeq (sPar [2, 3, 4, 5] (mVal (xBin addD (xC (.int 1)) (xCall g__law_roll (lCons (xVar 0) (lCons (xVar 1) lNil)))) (mVal (xCall g__law_roll (lCons (xVar 0) (lCons (xC (.int 3)) lNil))) (mNew (xLst lNil) (mVal (xUn negD (xC (.int 1))) mNil)))))
    (sSeq (sFor (iRg2 (lCons (xC (.int 1)) (lCons (xBin addD (xVar 2) (xC (.int 1))) lNil))) (gN 6) L__law_plan_1)
    (sFrz 4 (sRet (xCb tupleD (lCons (xVar 4) lNil))))))
def g__law_plan : List D → Store → Res D := bodyD F__law_plan 7
abbrev st__law_rows : Stmt := topS 37
theorem sc__law_rows : FnScope ["many", "found", "turn", "longer", "row"] ["many"] (defScope st__law_rows) := ⟨rfl, rfl, rfl, by decide +kernel, rfl, by decide +kernel, by decide +kernel⟩
abbrev L__law_rows_1 : SD := (sSeq (sApp 3 (xBin addD (xVar 4) (xC (.str "d"))))
    (sApp 3 (xBin addD (xVar 4) (xC (.str "u")))))
abbrev L__law_rows_2 : SD := (sSeq (sAsgF 3 (xLst lNil))
    (sSeq (sFor (iSeq (xVar 1)) (gN 4) L__law_rows_1)
    (sFrz 3 (sAsg 1 (xVar 3)))))
def F__law_rows : SD := (sSeq (sAsg 1 (xLst (lCons (xC (.str "")) lNil)))
    (sSeq (sFor (iRg1 (lCons (xVar 0) lNil)) (gN 2) L__law_rows_2)
    (sRet (xVar 1))))
def g__law_rows : List D → Store → Res D := bodyD F__law_rows 5
abbrev st__law_end : Stmt := topS 35
theorem sc__law_end : FnScope ["plan", "row", "at", "ups", "sign"] ["plan", "row"] (defScope st__law_end) := ⟨rfl, rfl, rfl, by decide +kernel, rfl, by decide +kernel, by decide +kernel⟩
abbrev C__law_end_1 : XD := (xLc (iSeq (xSl (xVar 1) oNone (oSome (xBin addD (xVar 2) (xC (.int 1)))))) (gN 4) (bVal (xBin eqD (xVar 4) (xC (.str "u")))) (xVar 4) [4])
abbrev L__law_end_2 : SD := (sSeq (sAsg 3 (xCb lenD (lCons C__law_end_1 lNil)))
    (sSeq (sIf (bVal (xBin leD (xVar 3) (xIx (xIx (xVar 0) (xVar 2)) (xC (.int 0))))) (sRet (xTup (lCons (xBin addD (xVar 2) (xC (.int 1))) (lCons (xC (.str "down")) lNil)))) sNext)
    (sIf (bVal (xBin geD (xVar 3) (xIx (xIx (xVar 0) (xVar 2)) (xC (.int 1))))) (sRet (xTup (lCons (xBin addD (xVar 2) (xC (.int 1))) (lCons (xC (.str "up")) lNil)))) sNext)))
def F__law_end : SD := (sSeq (sFor (iRg1 (lCons (xCb lenD (lCons (xVar 1) lNil)) lNil)) (gN 2) L__law_end_2)
    (sRet (xC .non)))
def g__law_end : List D → Store → Res D := bodyD F__law_end 5
abbrev st__law_small_right : Stmt := topS 42
theorem sc__law_small_right : FnScope ["plan", "counts", "open_ones", "many", "row", "end", "ups", "sign"] ["plan"] (defScope st__law_small_right) := ⟨rfl, rfl, rfl, by decide +kernel, rfl, by decide +kernel, by decide +kernel⟩
abbrev C__law_small_right_1 : XD := (xLc (iSeq (xVar 4)) (gN 7) (bVal (xBin eqD (xVar 7) (xC (.str "u")))) (xVar 7) [7])
abbrev L__law_small_right_2 : SD := (sSeq (sPar [5, 6] (mVal (xCall g__law_end (lCons (xVar 0) (lCons (xVar 4) lNil))) (mVal (xCb lenD (lCons C__law_small_right_1 lNil)) mNil)))
    (sSeq (sIf (bAnd (bVal (xBin notN (xVar 5) (xC .non))) (bVal (xBin eqD (xIx (xVar 5) (xC (.int 0))) (xVar 3)))) (sPutT 1 (lCons (xVar 3) (lCons (xVar 6) lNil)) (xBin addD (xBor 1 (xGet2T (xVar 1) (lCons (xVar 3) (lCons (xVar 6) lNil)) (xC (.int 0)))) (xC (.int 1)))) sNext)
    (sIf (bVal (xBin isN (xVar 5) (xC .non))) (sPutT 2 (lCons (xVar 3) (lCons (xVar 6) lNil)) (xBin addD (xBor 2 (xGet2T (xVar 2) (lCons (xVar 3) (lCons (xVar 6) lNil)) (xC (.int 0)))) (xC (.int 1)))) sNext)))
abbrev L__law_small_right_3 : SD := (sFor (iSeq (xCall g__law_rows (lCons (xVar 3) lNil))) (gN 4) L__law_small_right_2)
abbrev C__law_small_right_4 : XD := (xLc (iSeq (xCb sortedA (lCons (xVar 1) lNil))) (gT (gC (gN 3) (gC (gN 6) gE))) bTrue (xTup (lCons (xVar 3) (lCons (xVar 6) (lCons (xBor 1 (xGetT (xVar 1) (lCons (xVar 3) (lCons (xVar 6) lNil)))) lNil)))) [3, 6])
abbrev C__law_small_right_5 : XD := (xLc (iRg1 (lCons (xBin addD (xVar 3) (xC (.int 1))) lNil)) (gN 6) bTrue (xBor 2 (xGet2T (xVar 2) (lCons (xVar 3) (lCons (xVar 6) lNil)) (xC (.int 0)))) [6])
abbrev L__law_small_right_6 : SD := (sIf (bNot (bVal (xCall (g__law_like 12) (lCons (xCall g_open_counts (lCons (xVar 0) (lCons (xVar 3) lNil))) (lCons (xCb tupleD (lCons C__law_small_right_5 lNil)) lNil))))) (sRet (xC (.bl false))) sNext)
def F__law_small_right : SD := (sSeq (sPar [1, 2] (mNew xNewT (mNew xNewT mNil)))
    (sSeq (sFor (iRg2 (lCons (xC (.int 1)) (lCons (xBin addD (xCb lenD (lCons (xVar 0) lNil)) (xC (.int 1))) lNil))) (gN 3) L__law_small_right_3)
    (sSeq (sFrz 1 (sIf (bNot (bVal (xCall (g__law_like 12) (lCons (xCall g_end_points (lCons (xVar 0) lNil)) (lCons (xCb tupleD (lCons C__law_small_right_4 lNil)) lNil))))) (sRet (xC (.bl false))) sNext))
    (sSeq (sFor (iRg2 (lCons (xC (.int 1)) (lCons (xBin addD (xCb lenD (lCons (xVar 0) lNil)) (xC (.int 1))) lNil))) (gN 3) L__law_small_right_6)
    (sRet (xC (.bl true)))))))
def g__law_small_right : List D → Store → Res D := bodyD F__law_small_right 8
abbrev st__law_points : Stmt := topS 38
theorem sc__law_points : FnScope ["plan", "here", "found", "at", "low", "high", "later", "ups", "own"] ["plan"] (defScope st__law_points) := ⟨rfl, rfl, rfl, by decide +kernel, rfl, by decide +kernel, by decide +kernel⟩
abbrev L__law_points_1 : SD := (sPutK 6 (xVar 8) (xBin addD (xBor 6 (xGet2K (xVar 6) (xVar 8) (xC (.int 0)))) (xBor 1 (xGetK (xVar 1) (xVar 7)))))
abbrev L__law_points_2 : SD := (sFor (iSeq (xTup (lCons (xVar 7) (lCons (xBin addD (xVar 7) (xC (.int 1))) lNil)))) (gN 8) L__law_points_1)
abbrev L__law_points_3 : SD := (sIf (bVal (xChain ltD ltD (xVar 4) (xVar 8) (xVar 5))) (sPutK 1 (xVar 8) (xBor 6 (xGetK (xVar 6) (xVar 8)))) (sApp 2 (xTup (lCons (xBin addD (xVar 3) (xC (.int 1))) (lCons (xVar 8) (lCons (xBor 6 (xGetK (xVar 6) (xVar 8))) lNil))))))
abbrev L__law_points_4 : SD := (sSeq (sAsgF 6 xNewK)
    (sSeq (sForK 1 (gN 7) L__law_points_2)
    (sSeq (sAsgF 1 xNewK)
    (sFrz 6 (sFor (iSeq (xCb sortedA (lCons (xVar 6) lNil))) (gN 8) L__law_points_3)))))
def F__law_points : SD := (sSeq (sPar [1, 2] (mNew (xDisp1 (.inl 0) (.int 1)) (mNew (xLst lNil) mNil)))
    (sSeq (sFor (wEnumA (xVar 0)) (gT (gC (gN 3) (gC (gT (gC (gN 4) (gC (gN 5) gE))) gE))) L__law_points_4)
    (sFrz 2 (sRet (xVar 2)))))
def g__law_points : List D → Store → Res D := bodyD F__law_points 9
abbrev st__law_some : Stmt := topS 29
theorem sc__law_some : FnScope ["cup", "things"] ["cup", "things"] (defScope st__law_some) := ⟨rfl, rfl, rfl, by decide +kernel, rfl, by decide +kernel, by decide +kernel⟩
def F__law_some : SD := (sRet (xIx (xVar 1) (xCall g__law_roll (lCons (xVar 0) (lCons (xCb lenD (lCons (xVar 1) lNil)) lNil)))))
def g__law_some : List D → Store → Res D := bodyD F__law_some 2
abbrev st__law_row : Stmt := topS 36
theorem sc__law_row : FnScope ["cup", "most", "found", "turn"] ["cup", "most"] (defScope st__law_row) := ⟨rfl, rfl, rfl, by decide +kernel, rfl, by decide +kernel, by decide +kernel⟩
abbrev L__law_row_1 : SD := (sAsg 2 (xBin addD (xVar 2) (xCall g__law_some (lCons (xVar 0) (lCons (xC (.str "ud")) lNil)))))
def F__law_row : SD := (sSeq (sAsg 2 (xC (.str "")))
    (sSeq (sFor (iRg1 (lCons (xCall g__law_roll (lCons (xVar 0) (lCons (xBin addD (xVar 1) (xC (.int 1))) lNil))) lNil)) (gN 3) L__law_row_1)
    (sRet (xVar 2))))
def g__law_row : List D → Store → Res D := bodyD F__law_row 4
abbrev st__law_power : Stmt := topS 39
theorem sc__law_power : FnScope ["number", "times", "found", "turn"] ["number", "times"] (defScope st__law_power) := ⟨rfl, rfl, rfl, by decide +kernel, rfl, by decide +kernel, by decide +kernel⟩
abbrev L__law_power_1 : SD := (sAsg 2 (xBin mulD (xVar 2) (xVar 0)))
def F__law_power : SD := (sSeq (sAsg 2 (xC (.int 1)))
    (sSeq (sFor (iRg1 (lCons (xVar 1) lNil)) (gN 3) L__law_power_1)
    (sRet (xVar 2))))
def g__law_power : List D → Store → Res D := bodyD F__law_power 4
abbrev st__law_right : Stmt := topS 41
theorem sc__law_right : FnScope ["cup", "plan", "points", "turn", "row", "many", "ended", "trials", "ups", "ways"] ["cup", "plan"] (defScope st__law_right) := ⟨rfl, rfl, rfl, by decide +kernel, rfl, by decide +kernel, by decide +kernel⟩
abbrev L__law_right_1 : SD := (sSeq (sAsg 4 (xCall g__law_row (lCons (xVar 0) (lCons (xCb lenD (lCons (xVar 1) lNil)) lNil))))
    (sIf (bNot (bVal (xCall (g__law_like 12) (lCons (xCall g_end_of_row (lCons (xVar 1) (lCons (xVar 4) lNil))) (lCons (xCall g__law_end (lCons (xVar 1) (lCons (xVar 4) lNil))) lNil))))) (sRet (xC (.bl false))) sNext))
abbrev C__law_right_2 : XD := (xLc (iSeq (xVar 2)) (gT (gC (gN 7) (gC (gN 8) (gC (gN 9) gE)))) (bVal (xBin leD (xVar 7) (xVar 5))) (xBin mulD (xVar 9) (xCall g__law_power (lCons (xC (.int 2)) (lCons (xBin subD (xVar 5) (xVar 7)) lNil)))) [7, 8, 9])
def F__law_right : SD := (sSeq (sAsg 2 (xCall g__law_points (lCons (xVar 1) lNil)))
    (sSeq (sIf (bNot (bVal (xCall (g__law_like 12) (lCons (xLst (lCons (xCall g_is_end_plan (lCons (xVar 1) lNil)) (lCons (xCall g_end_points (lCons (xVar 1) lNil)) lNil))) (lCons (xLst (lCons (xC (.bl true)) (lCons (xCb tupleD (lCons (xVar 2) lNil)) lNil))) lNil))))) (sRet (xC (.bl false))) sNext)
    (sSeq (sFor (iRg1 (lCons (xC (.int 6)) lNil)) (gN 3) L__law_right_1)
    (sSeq (sIf (bNot (bVal (xCall (g__law_like 12) (lCons (xLst (lCons (xCall g_end_of_row (lCons (xVar 1) (lCons (xC (.str "")) lNil))) (lCons (xCall g_open_counts (lCons (xVar 1) (lCons (xC (.int 0)) lNil))) (lCons (xCb sumA (lCons (xCall g_open_counts (lCons (xVar 1) (lCons (xCb lenD (lCons (xVar 1) lNil)) lNil))) lNil)) lNil)))) (lCons (xLst (lCons (xC .non) (lCons (xTup (lCons (xC (.int 1)) lNil)) (lCons (xC (.int 0)) lNil)))) lNil))))) (sRet (xC (.bl false))) sNext)
    (sSeq (sAsg 5 (xCall g__law_roll (lCons (xVar 0) (lCons (xBin addD (xCb lenD (lCons (xVar 1) lNil)) (xC (.int 1))) lNil))))
    (sSeq (sAsg 6 (xCb sumA (lCons C__law_right_2 lNil)))
    (sRet (xCall (g__law_like 12) (lCons (xLst (lCons (xCb lenD (lCons (xCall g_open_counts (lCons (xVar 1) (lCons (xVar 5) lNil))) lNil)) (lCons (xBin addD (xCb sumA (lCons (xCall g_open_counts (lCons (xVar 1) (lCons (xVar 5) lNil))) lNil)) (xVar 6)) lNil))) (lCons (xLst (lCons (xBin addD (xVar 5) (xC (.int 1))) (lCons (xCall g__law_power (lCons (xC (.int 2)) (lCons (xVar 5) lNil))) lNil))) lNil))))))))))
def g__law_right : List D → Store → Res D := bodyD F__law_right 10
abbrev st__law_bent : Stmt := topS 33
theorem sc__law_bent : FnScope ["cup", "value", "some", "at", "way"] ["cup", "value"] (defScope st__law_bent) := ⟨rfl, rfl, rfl, by decide +kernel, rfl, by decide +kernel, by decide +kernel⟩
def F__law_bent (self : List D → Store → Res D) : SD := (sSeq (sIf (bOr (bNot (bVal (xUn (isiD Ty.tuple) (xVar 1)))) (bOr (bVal (xBin eqD (xVar 1) (xTup lNil))) (bVal (xBin eqD (xCall g__law_roll (lCons (xVar 0) (lCons (xC (.int 8)) lNil))) (xC (.int 0)))))) (sSeq (sAsg 2 (xLst (lCons (xC .non) (lCons (xC (.bl true)) (lCons (xC (.bl false)) (lCons (xC (.int 0)) (lCons (xC (.int 1)) (lCons (xC (.int 2)) (lCons (xC (.int 5)) (lCons (xUn negD (xC (.int 1))) (lCons (xC (.str "")) (lCons (xTup (lCons (xC (.int 0)) (lCons (xC (.int 1)) lNil))) (lCons (xTup (lCons (xUn negD (xC (.int 1))) (lCons (xC (.int 2)) lNil))) (lCons (xC (.int 41)) (lCons (xC (.int 42)) (lCons (xTup lNil) (lCons (xLst lNil) lNil)))))))))))))))))
    (sSeq (sIf (bVal (xBin eqD (xCall g__law_sort (lCons (xVar 1) lNil)) (xC (.int 2)))) (sAsg 2 (xBin addD (xVar 2) (xLst (lCons (xBin addD (xVar 1) (xC (.int 1))) (lCons (xBin addD (xVar 1) (xC (.int 1))) (lCons (xBin subD (xVar 1) (xC (.int 1))) lNil)))))) sNext)
    (sRet (xCall g__law_some (lCons (xVar 0) (lCons (xVar 2) lNil)))))) sNext)
    (sSeq (sPar [3, 4] (mVal (xCall g__law_roll (lCons (xVar 0) (lCons (xCb lenD (lCons (xVar 1) lNil)) lNil))) (mVal (xCall g__law_roll (lCons (xVar 0) (lCons (xC (.int 12)) lNil))) mNil)))
    (sSeq (sIf (bVal (xBin eqD (xVar 4) (xC (.int 0)))) (sRet (xBin addD (xSl (xVar 1) oNone (oSome (xVar 3))) (xSl (xVar 1) (oSome (xBin addD (xVar 3) (xC (.int 1)))) oNone))) sNext)
    (sSeq (sIf (bVal (xBin eqD (xVar 4) (xC (.int 1)))) (sRet (xBin addD (xSl (xVar 1) oNone (oSome (xBin addD (xVar 3) (xC (.int 1))))) (xSl (xVar 1) (oSome (xVar 3)) oNone))) sNext)
    (sSeq (sIf (bVal (xBin eqD (xVar 4) (xC (.int 2)))) (sRet (xCb listD (lCons (xVar 1) lNil))) sNext)
    (sSeq (sIf (bVal (xBin eqD (xVar 4) (xC (.int 3)))) (sRet (xUn revTD (xVar 1))) sNext)
    (sRet (xBin addD (xBin addD (xSl (xVar 1) oNone (oSome (xVar 3))) (xTup (lCons (xCall self (lCons (xVar 0) (lCons (xIx (xVar 1) (xVar 3)) lNil))) lNil))) (xSl (xVar 1) (oSome (xBin addD (xVar 3) (xC (.int 1)))) oNone)))))))))
def g__law_bent : Nat → List D → Store → Res D
  | 0 => fun _ _ => .fail
  | n + 1 => bodyD (F__law_bent (g__law_bent n)) 5
abbrev st__law_is_plan : Stmt := topS 40
theorem sc__law_is_plan : FnScope ["value", "low", "high", "pair"] ["value"] (defScope st__law_is_plan) := ⟨rfl, rfl, rfl, by decide +kernel, rfl, by decide +kernel, by decide +kernel⟩
abbrev C__law_is_plan_1 : XD := (xLc (iSeq (xVar 0)) (gN 3) (bOr (bNot (bVal (xUn (isiD Ty.tuple) (xVar 3)))) (bVal (xBin neD (xCb lenD (lCons (xVar 3) lNil)) (xC (.int 2))))) (xVar 3) [3])
abbrev L__law_is_plan_2 : SD := (sIf (bOr (bVal (xBin neD (xCall g__law_sort (lCons (xVar 1) lNil)) (xC (.int 2)))) (bOr (bVal (xBin neD (xCall g__law_sort (lCons (xVar 2) lNil)) (xC (.int 2)))) (bNot (bVal (xChain3 leD ltD leD (xUn negD (xC (.int 1))) (xVar 1) (xVar 2) (xC (.int 41))))))) (sRet (xC (.bl false))) sNext)
def F__law_is_plan : SD := (sSeq (sIf (bOr (bNot (bVal (xUn (isiD Ty.tuple) (xVar 0)))) (bOr (bNot (bVal (xChain leD leD (xC (.int 1)) (xCb lenD (lCons (xVar 0) lNil)) (xC (.int 40))))) (bVal (xBin neD C__law_is_plan_1 (xLst lNil))))) (sRet (xC (.bl false))) sNext)
    (sSeq (sFor (iSeq (xVar 0)) (gT (gC (gN 1) (gC (gN 2) gE))) L__law_is_plan_2)
    (sRet (xBin eqD (xIx (xIx (xVar 0) (xUn negD (xC (.int 1)))) (xC (.int 1))) (xBin addD (xIx (xIx (xVar 0) (xUn negD (xC (.int 1)))) (xC (.int 0))) (xC (.int 1)))))))
def g__law_is_plan : List D → Store → Res D := bodyD F__law_is_plan 4
abbrev st__law_judged : Stmt := topS 43
theorem sc__law_judged : FnScope ["cup", "plan", "at", "low", "high", "values", "odd", "value"] ["cup", "plan"] (defScope st__law_judged) := ⟨rfl, rfl, rfl, by decide +kernel, rfl, by decide +kernel, by decide +kernel⟩
abbrev L__law_judged_1 : SD := (sApp 5 (xBin addD (xBin addD (xSl (xVar 1) oNone (oSome (xVar 2))) (xTup (lCons (xVar 6) lNil))) (xSl (xVar 1) (oSome (xBin addD (xVar 2) (xC (.int 1)))) oNone)))
abbrev C__law_judged_2 : XD := (xLc (iSeq (xVar 5)) (gN 7) (bNot (bVal (xCall (g__law_like 12) (lCons (xCall g_is_end_plan (lCons (xVar 7) lNil)) (lCons (xCall g__law_is_plan (lCons (xVar 7) lNil)) lNil))))) (xVar 7) [7])
def F__law_judged : SD := (sSeq (sAsg 2 (xCall g__law_roll (lCons (xVar 0) (lCons (xCb lenD (lCons (xVar 1) lNil)) lNil))))
    (sSeq (sAsgG (xIx (xVar 1) (xVar 2)) (gT (gC (gN 3) (gC (gN 4) gE))))
    (sSeq (sAsgF 5 (xLst (lCons (xVar 1) (lCons (xUn revTD (xVar 1)) (lCons (xCb listD (lCons (xVar 1) lNil)) (lCons (xSl (xVar 1) oNone (oSome (xUn negD (xC (.int 1))))) (lCons (xBin addD (xVar 1) (xSl (xVar 1) (oSome (xUn negD (xC (.int 1)))) oNone)) (lCons (xBin addD (xVar 1) (xTup (lCons (xTup (lCons (xC (.int 41)) (lCons (xC (.int 42)) lNil))) lNil))) (lCons (xC .non) (lCons (xTup lNil) (lCons (xC (.int 5)) (lCons (xC (.str "plan")) lNil))))))))))))
    (sSeq (sFrz 5 (sAsgF 5 (xBin addL (xVar 5) (xLst (lCons (xTup (lCons (xTup (lCons (xUn negD (xC (.int 1))) (lCons (xC (.int 0)) lNil))) lNil)) (lCons (xTup (lCons (xTup (lCons (xC (.int 40)) (lCons (xC (.int 41)) lNil))) lNil)) (lCons (xTup (lCons (xTup (lCons (xUn negD (xC (.int 2))) (lCons (xUn negD (xC (.int 1))) lNil))) lNil)) (lCons (xBin mulT (xTup (lCons (xTup (lCons (xUn negD (xC (.int 1))) (lCons (xC (.int 0)) lNil))) lNil)) (xC (.int 41))) lNil))))))))
    (sSeq (sFor (iSeq (xTup (lCons (xTup (lCons (xVar 4) (lCons (xVar 3) lNil))) (lCons (xTup (lCons (xVar 3) (lCons (xVar 3) lNil))) (lCons (xLst (lCons (xVar 3) (lCons (xVar 4) lNil))) (lCons (xTup (lCons (xVar 3) lNil)) (lCons (xTup (lCons (xVar 3) (lCons (xVar 4) (lCons (xVar 4) lNil)))) (lCons (xC .non) (lCons (xTup (lCons (xVar 3) (lCons (xC (.bl true)) lNil))) (lCons (xTup (lCons (xVar 3) (lCons (xC (.str "1")) lNil))) (lCons (xTup (lCons (xUn negD (xC (.int 2))) (lCons (xVar 4) lNil))) (lCons (xTup (lCons (xVar 3) (lCons (xC (.int 42)) lNil))) (lCons (xTup (lCons (xVar 3) (lCons (xBin addD (xVar 4) (xC (.int 1))) lNil))) lNil))))))))))))) (gN 6) L__law_judged_1)
    (sSeq (sFrz 5 (sAsgF 5 (xBin addL (xVar 5) (xLst (lCons (xCall (g__law_bent 6) (lCons (xVar 0) (lCons (xVar 1) lNil))) (lCons (xCall (g__law_bent 6) (lCons (xVar 0) (lCons (xVar 1) lNil))) lNil))))))
    (sFrz 5 (sRet (xBin eqD C__law_judged_2 (xLst lNil))))))))))
def g__law_judged : List D → Store → Res D := bodyD F__law_judged 8
abbrev st__law_ways : Stmt := topS 32
theorem sc__law_ways : FnScope ["many", "some", "found", "at"] ["many", "some"] (defScope st__law_ways) := ⟨rfl, rfl, rfl, by decide +kernel, rfl, by decide +kernel, by decide +kernel⟩
abbrev L__law_ways_1 : SD := (sAsg 2 (xCb intD (lCons (xBin divD (xBin mulD (xVar 2) (xBin subD (xVar 0) (xVar 3))) (xBin addD (xVar 3) (xC (.int 1)))) lNil)))
def F__law_ways : SD := (sSeq (sAsg 2 (xC (.int 1)))
    (sSeq (sFor (iRg1 (lCons (xVar 1) lNil)) (gN 3) L__law_ways_1)
    (sRet (xIf (bVal (xBin leD (xVar 1) (xVar 0))) (xVar 2) (xC (.int 0))))))
def g__law_ways : List D → Store → Res D := bodyD F__law_ways 4
abbrev st_law : Stmt := topS 44
theorem sc_law : FnScope ["script", "cup", "some", "told", "most", "plan", "turn", "many", "need", "ups"] ["script"] (defScope st_law) := ⟨rfl, rfl, rfl, by decide +kernel, rfl, by decide +kernel, by decide +kernel⟩
abbrev L_law_1 : SD := (sSeq (sAsg 5 (xCall g__law_plan (lCons (xVar 1) (lCons (xVar 4) lNil))))
    (sIf (bOr (bNot (bVal (xCall g__law_right (lCons (xVar 1) (lCons (xVar 5) lNil))))) (bNot (bVal (xCall g__law_judged (lCons (xVar 1) (lCons (xVar 5) lNil)))))) (sRet (xC (.bl false))) sNext))
abbrev L_law_2 : SD := (sIf (bNot (bVal (xCall g__law_small_right (lCons (xCall g__law_plan (lCons (xVar 1) (lCons (xC (.int 6)) lNil))) lNil)))) (sRet (xC (.bl false))) sNext)
abbrev C_law_3 : XD := (xLc (iRg1 (lCons (xBin addD (xVar 7) (xC (.int 1))) lNil)) (gN 9) bTrue (xTup (lCons (xVar 7) (lCons (xVar 9) (lCons (xCall g__law_ways (lCons (xVar 7) (lCons (xVar 9) lNil))) lNil)))) [9])
def F_law : SD := (sSeq (sAsgF 1 (xCall g__law_cup (lCons (xVar 0) lNil))) (sProm 1 (sSeq (sAsg 2 (xTup (lCons (xTup (lCons (xUn negD (xC (.int 1))) (lCons (xC (.int 2)) lNil))) (lCons (xTup (lCons (xC (.int 0)) (lCons (xC (.int 2)) lNil))) (lCons (xTup (lCons (xC (.int 1)) (lCons (xC (.int 2)) lNil))) lNil)))))
    (sSeq (sAsg 3 (xLst (lCons (xCall g_is_end_plan (lCons (xVar 2) lNil)) (lCons (xCall g_is_end_plan (lCons (xTup (lCons (xTup (lCons (xUn negD (xC (.int 1))) (lCons (xC (.int 2)) lNil))) lNil)) lNil)) (lCons (xCall g_end_of_row (lCons (xVar 2) (lCons (xC (.str "ud")) lNil))) (lCons (xCall g_end_of_row (lCons (xVar 2) (lCons (xC (.str "uud")) lNil))) (lCons (xCall g_end_of_row (lCons (xVar 2) (lCons (xC (.str "udd")) lNil))) lNil)))))))
    (sSeq (sIf (bNot (bVal (xCall (g__law_like 12) (lCons (xVar 3) (lCons (xLst (lCons (xC (.bl true)) (lCons (xC (.bl false)) (lCons (xC .non) (lCons (xTup (lCons (xC (.int 2)) (lCons (xC (.str "up")) lNil))) (lCons (xTup (lCons (xC (.int 3)) (lCons (xC (.str "down")) lNil))) lNil)))))) lNil))))) (sRet (xC (.bl false))) sNext)
    (sSeq (sAsg 3 (xLst (lCons (xCall g_end_points (lCons (xVar 2) lNil)) (lCons (xCall g_open_counts (lCons (xVar 2) (lCons (xC (.int 0)) lNil))) (lCons (xCall g_open_counts (lCons (xVar 2) (lCons (xC (.int 2)) lNil))) (lCons (xCall g_open_counts (lCons (xVar 2) (lCons (xC (.int 3)) lNil))) (lCons (xCall g_end_points (lCons (xTup (lCons (xTup (lCons (xUn negD (xC (.int 1))) (lCons (xC (.int 0)) lNil))) lNil)) lNil)) (lCons (xCall g_end_of_row (lCons (xTup (lCons (xTup (lCons (xC (.int 1)) (lCons (xC (.int 2)) lNil))) lNil)) (lCons (xC (.str "u")) lNil))) lNil))))))))
    (sSeq (sIf (bNot (bVal (xCall (g__law_like 12) (lCons (xVar 3) (lCons (xLst (lCons (xTup (lCons (xTup (lCons (xC (.int 2)) (lCons (xC (.int 0)) (lCons (xC (.int 1)) lNil)))) (lCons (xTup (lCons (xC (.int 2)) (lCons (xC (.int 2)) (lCons (xC (.int 1)) lNil)))) (lCons (xTup (lCons (xC (.int 3)) (lCons (xC (.int 1)) (lCons (xC (.int 2)) lNil)))) (lCons (xTup (lCons (xC (.int 3)) (lCons (xC (.int 2)) (lCons (xC (.int 2)) lNil)))) lNil))))) (lCons (xTup (lCons (xC (.int 1)) lNil)) (lCons (xTup (lCons (xC (.int 0)) (lCons (xC (.int 2)) (lCons (xC (.int 0)) lNil)))) (lCons (xTup (lCons (xC (.int 0)) (lCons (xC (.int 0)) (lCons (xC (.int 0)) (lCons (xC (.int 0)) lNil))))) (lCons (xTup (lCons (xTup (lCons (xC (.int 1)) (lCons (xC (.int 0)) (lCons (xC (.int 1)) lNil)))) (lCons (xTup (lCons (xC (.int 1)) (lCons (xC (.int 1)) (lCons (xC (.int 1)) lNil)))) lNil))) (lCons (xTup (lCons (xC (.int 1)) (lCons (xC (.str "down")) lNil))) lNil))))))) lNil))))) (sRet (xC (.bl false))) sNext)
    (sSeq (sFor (iSeq (xTup (lCons (xC (.int 2)) (lCons (xC (.int 5)) (lCons (xC (.int 12)) (lCons (xC (.int 40)) lNil)))))) (gN 4) L_law_1)
    (sSeq (sFor (iRg1 (lCons (xC (.int 2)) lNil)) (gN 6) L_law_2)
    (sSeq (sAsg 7 (xBin addD (xC (.int 1)) (xCall g__law_roll (lCons (xVar 1) (lCons (xC (.int 40)) lNil)))))
    (sSeq (sAsg 8 (xCall g__law_roll (lCons (xVar 1) (lCons (xBin addD (xVar 7) (xC (.int 1))) lNil))))
    (sSeq (sAsg 5 (xBin addD (xBin mulT (xTup (lCons (xTup (lCons (xUn negD (xC (.int 1))) (lCons (xC (.int 41)) lNil))) lNil)) (xBin subD (xVar 7) (xC (.int 1)))) (xTup (lCons (xTup (lCons (xBin subD (xVar 8) (xC (.int 1))) (lCons (xVar 8) lNil))) lNil))))
    (sRet (xCall (g__law_like 12) (lCons (xCall g_end_points (lCons (xVar 5) lNil)) (lCons (xCb tupleD (lCons C_law_3 lNil)) lNil))))))))))))))))
def g_law : List D → Store → Res D := bodyD F_law 10
end K75
set_option Elab.async false
set_option linter.all false
set_option maxRecDepth 100000
set_option maxHeartbeats 2000000
/-! DC: denotations evaluated. -/
namespace DC
open PySem
section
variable {α β : Type}
@[simp] theorem ev_bind_ok (a : α) (μ : Store) (k : α → Store → Res β) : (Res.ok a μ).bind k = k a μ := rfl
@[simp] theorem ev_bind_fail (k : α → Store → Res β) : (Res.fail : Res α).bind k = .fail := rfl
@[simp] theorem ev_bind_exc (x : Exn) (μ : Store) (k : α → Store → Res β) : (Res.exc x μ : Res α).bind k = .exc x μ := rfl
@[simp] theorem ev_st_ok (a : α) (μ : Store) (ρ : Env) (k : α → Store → SRes) : (Res.ok a μ).st ρ k = k a μ := rfl
@[simp] theorem ev_ofO_some (a : α) (μ : Store) : Res.ofO (some a) μ = .ok a μ := rfl
@[simp] theorem ev_ofO_none (μ : Store) : (Res.ofO none μ : Res α) = .fail := rfl
end
section
variable {ρ ρ' : Env} {μ μ' : Store} {f f1 f2 f3 f4 : XD} {fs : XL} {t t1 t2 : XB} {F G : SD} {g g' g'' : D → D → Option D}
/-- a slot read -/
def slV (s : Option Sl) (μ : Store) : Res D := match s with
  | some (.fz d) => .ok d μ
  | _ => .fail
@[simp] theorem slV_fz (d : D) : slV (some (.fz d)) μ = .ok d μ := rfl
@[simp] theorem ev_var (i : Nat) : xVar i ρ μ = slV ρ[i]? μ := rfl
@[simp] theorem ev_C (d : D) : xC d ρ μ = .ok d μ := rfl
@[simp] theorem ev_bin : xBin g f1 f2 ρ μ = (f1 ρ μ).bind fun a μ1 => (f2 ρ μ1).bind fun b μ2 => Res.ofO (g a b) μ2 := rfl
@[simp] theorem ev_un {h : D → Option D} : xUn h f ρ μ = (f ρ μ).bind fun a μ1 => Res.ofO (h a) μ1 := rfl
@[simp] theorem ev_chain : xChain g g' f1 f2 f3 ρ μ = (f1 ρ μ).bind fun a μ1 => (f2 ρ μ1).bind fun b μ2 => (Res.ofO ((g a b).bind asB) μ2).bind fun k μ2 =>
  if k then (f3 ρ μ2).bind fun c μ3 => Res.ofO (g' b c) μ3 else .ok (.bl false) μ2 := rfl
@[simp] theorem ev_chain3 : xChain3 g g' g'' f1 f2 f3 f4 ρ μ = (f1 ρ μ).bind fun a μ1 => (f2 ρ μ1).bind fun b μ2 => (Res.ofO ((g a b).bind asB) μ2).bind fun k μ2 =>
  if k then (f3 ρ μ2).bind fun c μ3 => (Res.ofO ((g' b c).bind asB) μ3).bind fun k2 μ3 => if k2 then (f4 ρ μ3).bind fun d μ4 => Res.ofO (g'' c d) μ4 else .ok (.bl false) μ3 else .ok (.bl false) μ2 := rfl
@[simp] theorem ev_and : xAnd f1 f2 ρ μ = (f1 ρ μ).bind fun a μ1 => (Res.ofO (asB a) μ1).bind fun k μ1 => if k then f2 ρ μ1 else .ok (.bl false) μ1 := rfl
@[simp] theorem ev_or : xOr f1 f2 ρ μ = (f1 ρ μ).bind fun a μ1 => (Res.ofO (asB a) μ1).bind fun k μ1 => if k then .ok (.bl true) μ1 else f2 ρ μ1 := rfl
@[simp] theorem ev_not : xNot f ρ μ = (f ρ μ).bind fun a μ1 => (Res.ofO (asB a) μ1).bind fun k μ1 => .ok (.bl (!k)) μ1 := rfl
@[simp] theorem ev_if : xIf t f1 f2 ρ μ = (t ρ μ).bind fun k μ1 => if k then f1 ρ μ1 else f2 ρ μ1 := rfl
@[simp] theorem ev_bVal : bVal f ρ μ = (f ρ μ).bind fun a μ1 => Res.ofO (asB a) μ1 := rfl
@[simp] theorem ev_bAnd : bAnd t1 t2 ρ μ = (t1 ρ μ).bind fun k μ1 => if k then t2 ρ μ1 else .ok false μ1 := rfl
@[simp] theorem ev_bOr : bOr t1 t2 ρ μ = (t1 ρ μ).bind fun k μ1 => if k then .ok true μ1 else t2 ρ μ1 := rfl
@[simp] theorem ev_bNot : bNot t ρ μ = (t ρ μ).bind fun k μ1 => .ok (!k) μ1 := rfl
@[simp] theorem ev_bTrue : bTrue ρ μ = .ok true μ := rfl
@[simp] theorem ev_asB (b : Bool) : asB (.bl b) = some b := rfl
@[simp] theorem ev_lNil : lNil ρ μ = .ok [] μ := rfl
@[simp] theorem ev_lCons : lCons f fs ρ μ = (f ρ μ).bind fun d μ1 => (fs ρ μ1).bind fun ds μ2 => .ok (d :: ds) μ2 := rfl
@[simp] theorem ev_tup : xTup fs ρ μ = (fs ρ μ).bind fun ds μ1 => if lenOk ds then .ok (.tup ds) μ1 else .fail := rfl
@[simp] theorem ev_lst : xLst fs ρ μ = (fs ρ μ).bind fun ds μ1 => if lenOk ds then .ok (.lst ds) μ1 else .fail := rfl
@[simp] theorem ev_call {h : List D → Store → Res D} : xCall h fs ρ μ = (fs ρ μ).bind fun ds μ1 => h ds μ1 := rfl
@[simp] theorem ev_cb {h : List D → Option D} : xCb h fs ρ μ = (fs ρ μ).bind fun ds μ1 => Res.ofO (h ds) μ1 := rfl
@[simp] theorem ev_ix : xIx f1 f2 ρ μ = (f1 ρ μ).bind fun a μ1 => (f2 ρ μ1).bind fun b μ2 => Res.ofO (ixS μ2 a b) μ2 := rfl
@[simp] theorem ev_sl {l h : Env → Store → Res (Option Int)} : xSl f l h ρ μ = (f ρ μ).bind fun a μ1 => (l ρ μ1).bind fun lo μ2 => (h ρ μ2).bind fun hi μ3 => Res.ofO (slT a lo hi) μ3 := rfl
@[simp] theorem ev_oNone : oNone ρ μ = .ok none μ := rfl
@[simp] theorem ev_oSome : oSome f ρ μ = (f ρ μ).bind fun d μ' => match d with
  | .int i => .ok (some i) μ'
  | _ => .fail := rfl
/-! statements -/
def SRes.seq (r : SRes) (G : SD) : SRes := match r with
  | .nx ρ μ => G ρ μ
  | r => r
@[simp] theorem seq_nx : (SRes.nx ρ μ).seq G = G ρ μ := rfl
@[simp] theorem seq_rt (d : D) : (SRes.rt d μ).seq G = .rt d μ := rfl
@[simp] theorem seq_bk : (SRes.bk ρ μ).seq G = .bk ρ μ := rfl
@[simp] theorem seq_ct : (SRes.ct ρ μ).seq G = .ct ρ μ := rfl
@[simp] theorem seq_fail : SRes.fail.seq G = .fail := rfl
@[simp] theorem ev_next : sNext ρ μ = .nx ρ μ := rfl
@[simp] theorem ev_seq : sSeq F G ρ μ = (F ρ μ).seq G := by
  unfold sSeq SRes.seq
  cases F ρ μ <;> rfl
@[simp] theorem ev_asg (i : Nat) : sAsg i f ρ μ = (f ρ μ).st ρ fun d μ' => .nx (ρ.set i (.fz d)) μ' := rfl
@[simp] theorem ev_asgF (i : Nat) : sAsgF i f ρ μ = (f ρ μ).st ρ fun d μ' => .nx (ρ.set i (.ow d)) μ' := rfl
@[simp] theorem ev_ret : sRet f ρ μ = (f ρ μ).st ρ fun d μ' => .rt d μ' := rfl
@[simp] theorem ev_retN : sRetN ρ μ = .rt .non μ := rfl
@[simp] theorem ev_sIf : sIf t F G ρ μ = (t ρ μ).st ρ fun b μ' => if b then F ρ μ' else G ρ μ' := rfl
@[simp] theorem ev_expr : sExpr f ρ μ = (f ρ μ).st ρ fun _ μ' => .nx ρ μ' := rfl
def frzE (ρ : Env) (i : Nat) : Env := match ρ[i]? with
  | some (.ow d) => ρ.set i (.fz d)
  | _ => ρ
@[simp] theorem ev_frz (i : Nat) : sFrz i F ρ μ = F (frzE ρ i) μ := by
  unfold sFrz frzE
  cases ρ[i]? with
  | none => rfl
  | some s => cases s <;> rfl
def appE (s : Option Sl) (i : Nat) (d : D) (ρ : Env) (μ : Store) : SRes := match s with
  | some (.ow (.lst ds)) => if Nat.ble ds.length 1000000 then .nx (ρ.set i (.ow (.lst (ds ++ [d])))) μ else .fail
  | _ => .fail
@[simp] theorem appE_ow (i : Nat) (d : D) (ds : List D) : appE (some (.ow (.lst ds))) i d ρ μ = if Nat.ble ds.length 1000000 then .nx (ρ.set i (.ow (.lst (ds ++ [d])))) μ else .fail := rfl
theorem ev_app {i : Nat} {ds : List D} {d : D} (h : ρ[i]? = some (.ow (.lst ds))) (hf : f ρ μ = .ok d μ') (hl : ds.length ≤ 1000000) : sApp i f ρ μ = .nx (ρ.set i (.ow (.lst (ds ++ [d])))) μ' := by
  unfold sApp
  rw [h, hf]
  show (if Nat.ble ds.length 1000000 = true then _ else _) = _
  rw [if_pos (Nat.ble_eq.mpr hl)]
@[simp] theorem ev_for {src : XL} {tg : Tg} : sFor src tg F ρ μ = (src ρ μ).st ρ fun ds μ' => sForL tg F ds ρ μ' := rfl
@[simp] theorem ev_gN (i : Nat) (d : D) : gN i d ρ = some (ρ.set i (.fz d)) := rfl
@[simp] theorem ev_gE : gE [] ρ = some ρ := rfl
@[simp] theorem ev_gC (tg : Tg) (gs : Tgs) (d : D) (ds : List D) : gC tg gs (d :: ds) ρ = (tg d ρ).bind fun ρ' => gs ds ρ' := rfl
@[simp] theorem ev_gT (gs : Tgs) (ds : List D) : gT gs (.tup ds) ρ = gs ds ρ := rfl
@[simp] theorem ev_seq_src : iSeq f ρ μ = (f ρ μ).bind fun d μ' => Res.ofO (iSeqD d) μ' := rfl
@[simp] theorem ev_iSeqD_lst (ds : List D) : iSeqD (.lst ds) = some ds := rfl
@[simp] theorem ev_iSeqD_tup (ds : List D) : iSeqD (.tup ds) = some ds := rfl
@[simp] theorem ev_iSeqD_str (z : Str) : iSeqD (.str z) = some (strD z) := rfl
@[simp] theorem ev_forL_nil {tg : Tg} : sForL tg F [] ρ μ = .nx ρ μ := rfl
/-- loops by a relation -/
theorem forL_rel {tg : Tg} {ds : List D} (R : Nat → Env → Store → Prop) (h0 : R 0 ρ μ)
    (hs : ∀ i d ρ μ, ds[i]? = some d → R i ρ μ → ∃ ρ1 ρ' μ', tg d ρ = some ρ1 ∧ F ρ1 μ = .nx ρ' μ' ∧ R (i + 1) ρ' μ') : ∃ ρ' μ', sForL tg F ds ρ μ = .nx ρ' μ' ∧ R ds.length ρ' μ' := by
  induction ds generalizing ρ μ R with
  | nil => exact ⟨ρ, μ, rfl, h0⟩
  | cons d ds ih =>
    obtain ⟨ρ1, ρ2, μ2, e1, e2, h1⟩ := hs 0 d ρ μ rfl h0
    obtain ⟨ρ3, μ3, e3, h3⟩ := ih (ρ := ρ2) (μ := μ2) (fun i => R (i + 1)) h1 fun i d' ρ μ hd hR => hs (i + 1) d' ρ μ (by simpa using hd) hR
    refine ⟨ρ3, μ3, ?_, h3⟩
    unfold sForL
    rw [e1]
    show (match F ρ1 μ with
      | .nx ρ' μ' => sForL tg F ds ρ' μ'
      | .ct ρ' μ' => sForL tg F ds ρ' μ'
      | .bk ρ' μ' => SRes.nx ρ' μ'
      | r => r) = _
    rw [e2]
    exact e3
theorem forL_cons {tg : Tg} {d : D} {ds : List D} {ρ1 ρ2 : Env} {μ2 : Store} (e1 : tg d ρ = some ρ1) (e2 : F ρ1 μ = .nx ρ2 μ2) : sForL tg F (d :: ds) ρ μ = sForL tg F ds ρ2 μ2 := by
  show (match tg d ρ with
    | none => SRes.fail
    | some ρ1 => match F ρ1 μ with
      | .nx ρ' μ' => sForL tg F ds ρ' μ'
      | .ct ρ' μ' => sForL tg F ds ρ' μ'
      | .bk ρ' μ' => SRes.nx ρ' μ'
      | r => r) = _
  rw [e1]
  show (match F ρ1 μ with
      | .nx ρ' μ' => sForL tg F ds ρ' μ'
      | .ct ρ' μ' => sForL tg F ds ρ' μ'
      | .bk ρ' μ' => SRes.nx ρ' μ'
      | r => r) = _
  rw [e2]
theorem forL_rt {tg : Tg} {d r : D} {ds : List D} {ρ1 : Env} {μ2 : Store} (e1 : tg d ρ = some ρ1) (e2 : F ρ1 μ = .rt r μ2) : sForL tg F (d :: ds) ρ μ = .rt r μ2 := by
  show (match tg d ρ with
    | none => SRes.fail
    | some ρ1 => match F ρ1 μ with
      | .nx ρ' μ' => sForL tg F ds ρ' μ'
      | .ct ρ' μ' => sForL tg F ds ρ' μ'
      | .bk ρ' μ' => SRes.nx ρ' μ'
      | r => r) = _
  rw [e1]
  show (match F ρ1 μ with
      | .nx ρ' μ' => sForL tg F ds ρ' μ'
      | .ct ρ' μ' => sForL tg F ds ρ' μ'
      | .bk ρ' μ' => SRes.nx ρ' μ'
      | r => r) = _
  rw [e2]
/-- comprehensions that change nothing -/
theorem lcL_map {tg : Tg} {e : XD} {ρw : Env} (p : D → Bool) (h : D → D) : ∀ {ds : List D}, (∀ d, d ∈ ds → ∃ ρ2, tg d ρw = some ρ2 ∧ t ρ2 μ = .ok (p d) μ ∧ (p d = true → e ρ2 μ = .ok (h d) μ)) → lcL tg t e ρw ds μ = .ok ((ds.filter p).map h) μ
  | [], _ => rfl
  | d :: ds, hh => by
    obtain ⟨ρ2, e1, e2, e3⟩ := hh d (by simp)
    have ih := lcL_map p h (ds := ds) fun x hx => hh x (List.mem_cons_of_mem _ hx)
    unfold lcL
    rw [e1]
    show (match t ρ2 μ with
      | .ok true μ1 => (match e ρ2 μ1 with
        | .ok y μ2 => (match lcL tg t e ρw ds μ2 with
          | .ok ys μ3 => Res.ok (y :: ys) μ3
          | _ => Res.fail)
        | _ => Res.fail)
      | .ok false μ1 => lcL tg t e ρw ds μ1
      | _ => Res.fail) = _
    rw [e2]
    cases hp : p d with
    | false =>
      rw [List.filter_cons_of_neg (by rw [hp]; decide)]
      exact ih
    | true =>
      rw [List.filter_cons_of_pos hp]
      show (match e ρ2 μ with
        | .ok y μ2 => (match lcL tg t e ρw ds μ2 with
          | .ok ys μ3 => Res.ok (y :: ys) μ3
          | _ => Res.fail)
        | _ => Res.fail) = _
      rw [e3 hp]
      show (match lcL tg t e ρw ds μ with
          | .ok ys μ3 => Res.ok (h d :: ys) μ3
          | _ => Res.fail) = _
      rw [ih]
      rfl
theorem ev_lc {src : XL} {tg : Tg} {e : XD} {vs : List Nat} {ds : List D} (p : D → Bool) (h : D → D) (hs : src ρ μ = .ok ds μ') (hv : vsOk ρ vs = true) (hl : ds.length ≤ 1000000)
    (hh : ∀ d, d ∈ ds → ∃ ρ2, tg d (wipeE ρ vs) = some ρ2 ∧ t ρ2 μ' = .ok (p d) μ' ∧ (p d = true → e ρ2 μ' = .ok (h d) μ')) : xLc src tg t e vs ρ μ = .ok (.lst ((ds.filter p).map h)) μ' := by
  unfold xLc
  rw [hs]
  show (if (vsOk ρ vs && lenOk ds) = true then (match lcL tg t e (wipeE ρ vs) ds μ' with
    | .ok ys μ2 => Res.ok (D.lst ys) μ2
    | _ => Res.fail) else Res.fail) = _
  rw [if_pos (by rw [hv, Bool.true_and]; exact Nat.ble_eq.mpr hl), lcL_map p h hh]
theorem filter_tt {α : Type} (l : List α) : l.filter (fun _ => true) = l := by
  induction l with
  | nil => rfl
  | cons a l ih => rw [List.filter_cons_of_pos rfl, ih]
/-- no test -/
theorem ev_lcT {src : XL} {tg : Tg} {e : XD} {vs : List Nat} {ds : List D} (h : D → D) (hs : src ρ μ = .ok ds μ') (hv : vsOk ρ vs = true) (hl : ds.length ≤ 1000000)
    (hh : ∀ d, d ∈ ds → ∃ ρ2, tg d (wipeE ρ vs) = some ρ2 ∧ e ρ2 μ' = .ok (h d) μ') : xLc src tg bTrue e vs ρ μ = .ok (.lst (ds.map h)) μ' := by
  have := ev_lc (t := bTrue) (p := fun _ => true) h hs hv hl fun d hd => by
    obtain ⟨ρ2, e1, e2⟩ := hh d hd
    exact ⟨ρ2, e1, rfl, fun _ => e2⟩
  rw [filter_tt] at this
  exact this
end
/-! bodies -/
def SRes.fin (r : SRes) : Res D := match r with
  | .rt d μ' => .ok d μ'
  | .nx _ μ' => .ok .non μ'
  | .exc x _ μ' => .exc x μ'
  | _ => .fail
@[simp] theorem fin_rt (d : D) (μ : Store) : (SRes.rt d μ).fin = .ok d μ := rfl
@[simp] theorem fin_nx (ρ : Env) (μ : Store) : (SRes.nx ρ μ).fin = .ok .non μ := rfl
@[simp] theorem ev_body (F : SD) (n : Nat) (ds : List D) (μ : Store) : bodyD F n ds μ = (F (entry n ds) μ).fin := rfl
@[simp] theorem ev_entry (n : Nat) (ds : List D) : entry n ds = ds.map Sl.fz ++ List.replicate (n - ds.length) Sl.no := rfl
@[simp] theorem ev_lenOk {α : Type} (xs : List α) : lenOk xs = Nat.ble xs.length 1000000 := rfl
@[simp] theorem ev_cmpI (p : Int → Int → Bool) (i j : Int) : cmpI p (.int i) (.int j) = some (.bl (p i j)) := rfl
@[simp] theorem ev_addI (i j : Int) : addD (.int i) (.int j) = some (.int (i + j)) := rfl
@[simp] theorem ev_subI (i j : Int) : subD (.int i) (.int j) = some (.int (i - j)) := rfl
@[simp] theorem ev_neg (i : Int) : negD (.int i) = some (.int (-i)) := rfl
@[simp] theorem ev_int (i : Int) : intD [.int i] = some (.int i) := rfl
@[simp] theorem ev_abs (i : Int) : absD [.int i] = some (.int (if i < 0 then -i else i)) := rfl
theorem ev_mul {i j : Int} (h : mulOk i j = true) : mulD (.int i) (.int j) = some (.int (i * j)) := by
  show (if mulOk i j = true then some (D.int (i * j)) else none) = _
  rw [if_pos h]
theorem small64_of {i : Int} (h : i.natAbs < 18446744073709551616) : small64 i = true := Nat.ble_eq.mpr h
theorem mulOk_r {i j : Int} (h : j.natAbs < 18446744073709551616) : mulOk i j = true := by
  unfold mulOk
  rw [small64_of h, Bool.or_true, Bool.true_or]
theorem mulOk_l {i j : Int} (h : i.natAbs < 18446744073709551616) : mulOk i j = true := by
  unfold mulOk
  rw [small64_of h, Bool.true_or, Bool.true_or]
theorem ev_mod {i j : Int} (h : 0 < j) : modD (.int i) (.int j) = some (.int (i % j)) := by
  show (if decide (0 < j) = true then some (D.int (i % j)) else none) = _
  rw [if_pos (decide_eq_true h)]
set_option exponentiation.threshold 10 in
theorem pow_big : (1000000000000000000 : Nat) < 2 ^ 8999 := Nat.lt_of_lt_of_le (show 1000000000000000000 < 2 ^ 60 by decide) (Nat.pow_le_pow_right (by decide) (by decide))
theorem ev_div {i j : Int} (h : 0 < j) (h2 : j < 1000000000000000000) : divD (.int i) (.int j) = some (.int (i / j)) := by
  show (if (decide (0 < j) && Nat.blt j.natAbs (2 ^ 8999)) = true then some (D.int (i / j)) else _) = _
  have : Nat.blt j.natAbs (2 ^ 8999) = true := Nat.ble_eq.mpr (Nat.lt_trans (by omega) pow_big)
  rw [this, decide_eq_true h]
  rfl
theorem ev_setI {ρ : Env} {μ μ1 μ2 : Store} {i n p : Nat} {fi fe : XD} {z j : Int} {ns : List Int} (h0 : ρ[i]? = some (.fz (.own n))) (he : fe ρ μ = .ok (.int z) μ1) (hi : fi ρ μ1 = .ok (.int j) μ2) (hn : μ2[n]? = some ns) (hp : L2.ixN ns.length j = some p) : sSetI i fi fe ρ μ = .nx ρ (μ2.set n (ns.set p z)) := by
  unfold sSetI
  rw [he]
  simp only [ev_st_ok, h0]
  rw [hi]
  simp only [ev_st_ok, hn, hp]
end DC
set_option Elab.async false
set_option linter.all false
set_option maxRecDepth 100000
set_option maxHeartbeats 2000000
namespace K75
open PySem DC
/-! ### the cup -/
def CupOk (μ : Store) : Prop := ∃ a b : Int, μ = [[a, b]] ∧ 0 ≤ a ∧ 0 ≤ b
theorem ixc0 {a b : Int} : ixS [[a, b]] (.own 0) (.int 0) = some (.int a) := rfl
theorem ixc1 {a b : Int} : ixS [[a, b]] (.own 0) (.int 1) = some (.int b) := rfl
theorem roll_spec {μ : Store} {many : Int} (h : CupOk μ) (h0 : 0 < many) (h1 : many < 1000000) : ∃ v μ', g__law_roll [.own 0, .int many] μ = .ok (.int v) μ' ∧ CupOk μ' ∧ 0 ≤ v ∧ v < many := by
  obtain ⟨a, b, rfl, ha, hb⟩ := h
  unfold g__law_roll F__law_roll
  by_cases hp : 0 < a
  · refine ⟨a % many, [[a / many, b]], ?_, ⟨_, _, rfl, Int.ediv_nonneg ha (by omega), hb⟩, Int.emod_nonneg _ (by omega), Int.emod_lt_of_pos _ h0⟩
    simp [ixc0, hp, ev_mod h0]
    rw [ev_setI (n := 0) (p := 0) (z := a / many) (j := 0) (μ1 := [[a, b]]) (μ2 := [[a, b]]) (ns := [a, b]) rfl (by simp [ixc0, ev_div h0 (show many < 1000000000000000000 by omega)]) rfl rfl rfl]
    simp
  · have hb0 : 0 ≤ (b * 31051 + 7993) % 2147483543 := Int.emod_nonneg _ (by omega)
    have hb1 : (b * 31051 + 7993) % 2147483543 < 2147483543 := Int.emod_lt_of_pos _ (by omega)
    have m1 : mulOk b 31051 = true := mulOk_r (by decide)
    have e1 := ev_setI (ρ := [.fz (.own 0), .fz (.int many), .no, .no]) (μ := [[a, b]]) (i := 0) (n := 0) (p := 1) (fi := xC (.int 1)) (fe := xBin modD (xCb intD (lCons (xBin addD (xBin mulD (xIx (xVar 0) (xC (.int 1))) (xC (.int 31051))) (xC (.int 7993))) lNil)) (xC (.int 2147483543)))
      (z := (b * 31051 + 7993) % 2147483543) (j := 1) (μ1 := [[a, b]]) (μ2 := [[a, b]]) (ns := [a, b]) rfl (by simp [ixc1, ev_mul m1, ev_mod]) rfl rfl rfl
    generalize hc : (b * 31051 + 7993) % 2147483543 = c at *
    have m2 : mulOk c (c + 229) = true := mulOk_r (by omega)
    refine ⟨c * (c + 229) % 2147483587 / 821 % many, [[a, c]], ?_, ⟨_, _, rfl, ha, hb0⟩, Int.emod_nonneg _ (by omega), Int.emod_lt_of_pos _ h0⟩
    simp [ixc0, hp, e1]
    simp [ixc1, ev_mul m2, ev_mod, ev_div, h0]
theorem some_lst {μ : Store} {ds : List D} (h : CupOk μ) (h0 : 0 < ds.length) (h1 : ds.length < 1000000) : ∃ d μ', g__law_some [.own 0, .lst ds] μ = .ok d μ' ∧ CupOk μ' ∧ d ∈ ds := by
  obtain ⟨v, μ', e, c, v0, v1⟩ := roll_spec (many := ds.length) h (by omega) (by omega)
  obtain ⟨i, rfl⟩ := Int.eq_ofNat_of_zero_le v0
  have hi : i < ds.length := by omega
  refine ⟨ds[i], μ', ?_, c, List.getElem_mem hi⟩
  unfold g__law_some F__law_some
  simp [lenD, e]
  have : ixS μ' (.lst ds) (.int (i : Nat)) = some ds[i] := by
    show L2.atI ds (i : Nat) = some ds[i]
    exact L2.atI_nat (List.getElem?_eq_getElem hi)
  rw [this]
  rfl
end K75
set_option Elab.async false
set_option linter.all false
set_option maxRecDepth 100000
set_option maxHeartbeats 2000000
namespace K75
open PySem DC
/-! ### equality of data -/
theorem eqvAll_refl (xs : List D) (h : ∀ x, x ∈ xs → PyData.eqv x.toPy x.toPy = true) : PyData.eqvAll (D.toPyA xs) (D.toPyA xs) = true := by
  induction xs with
  | nil => simp [D.toPyA, PyData.eqvAll]
  | cons x xs ih =>
    simp only [D.toPyA, PyData.eqvAll]
    rw [h x (by simp), ih fun y hy => h y (List.mem_cons_of_mem _ hy)]
    rfl
theorem eqv_refl : ∀ (n : Nat) (d : D), D.pd n d = true → D.eqv d d = true
  | 0, d, h => by simp [D.pd] at h
  | n + 1, d, h => by
    unfold D.eqv
    cases d with
    | non => simp [D.toPy, PyData.eqv]
    | bl b => simp [D.toPy, PyData.eqv]
    | int i => simp [D.toPy, PyData.eqv]
    | str x => simp [D.toPy, PyData.eqv]
    | tup xs =>
      simp only [D.toPy, PyData.eqv]
      have hx : xs.all (D.pd n) = true := h
      exact eqvAll_refl xs fun x hx' => eqv_refl n x (List.all_eq_true.mp hx x hx')
    | lst xs =>
      simp only [D.toPy, PyData.eqv]
      have hx : xs.all (D.pd n) = true := h
      exact eqvAll_refl xs fun x hx' => eqv_refl n x (List.all_eq_true.mp hx x hx')
    | scr _ => simp [D.pd] at h
    | dk _ _ => simp [D.pd] at h
    | dt _ _ => simp [D.pd] at h
    | own _ => simp [D.pd] at h
theorem pd_mono : ∀ (n m : Nat) (d : D), n ≤ m → D.pd n d = true → D.pd m d = true
  | 0, m, d, _, h => by simp [D.pd] at h
  | n + 1, 0, d, hm, h => by omega
  | n + 1, m + 1, d, hm, h => by
    cases d with
    | tup xs =>
      have hx : xs.all (D.pd n) = true := h
      show xs.all (D.pd m) = true
      rw [List.all_eq_true] at hx ⊢
      exact fun x hx' => pd_mono n m x (by omega) (hx x hx')
    | lst xs =>
      have hx : xs.all (D.pd n) = true := h
      show xs.all (D.pd m) = true
      rw [List.all_eq_true] at hx ⊢
      exact fun x hx' => pd_mono n m x (by omega) (hx x hx')
    | non => rfl
    | bl b => rfl
    | int i => rfl
    | str x => rfl
    | scr _ => simp [D.pd] at h
    | dk _ _ => simp [D.pd] at h
    | dt _ _ => simp [D.pd] at h
    | own _ => simp [D.pd] at h
@[simp] theorem ev_eqII (i j : Int) : eqD (.int i) (.int j) = some (.bl (decide (i = j))) := by
  unfold eqD D.eqv
  simp [D.pd, D.toPy, PyData.eqv]
  rfl
@[simp] theorem ev_neII (i j : Int) : neD (.int i) (.int j) = some (.bl (!decide (i = j))) := by
  unfold neD D.eqv
  simp [D.pd, D.toPy, PyData.eqv]
  rfl
@[simp] theorem ev_eqSS (x y : Str) : eqD (.str x) (.str y) = some (.bl (decide (x = y))) := by
  unfold eqD D.eqv
  simp [D.pd, D.toPy, PyData.eqv]
  rfl
@[simp] theorem ev_nil : eqD (.lst []) (.lst []) = some (.bl true) := by
  unfold eqD D.eqv
  simp [D.pd, D.toPy, D.toPyA, PyData.eqv, PyData.eqvAll]
/-! ### _law_sort -/
def srtI (d : D) : Int := match d with
  | .non => 0
  | .bl _ => 1
  | .int _ => 2
  | .str _ => 3
  | .tup _ => 4
  | .lst _ => 5
  | _ => 6
theorem sort_spec (d : D) (h : D.pd 60 d = true) (μ : Store) : g__law_sort [d] μ = .ok (.int (srtI d)) μ := by
  unfold g__law_sort F__law_sort
  cases d with
  | scr _ => simp [D.pd] at h
  | dk _ _ => simp [D.pd] at h
  | dt _ _ => simp [D.pd] at h
  | own _ => simp [D.pd] at h
  | _ => simp [isN, D.isNon, isiD, Ty.has, srtI]
end K75
set_option Elab.async false
set_option linter.all false
set_option maxRecDepth 100000
set_option maxHeartbeats 2000000
namespace K75
open PySem DC
theorem in45 (s : Int) : inSq false (.int s) (.tup [.int 4, .int 5]) = some (.bl (decide (s = 4 ∨ s = 5))) := by
  have e : inSq false (.int s) (.tup [.int 4, .int 5]) = some (.bl ((4 : Int) == s || (5 : Int) == s)) := by
    unfold inSq
    simp [D.flat, D.eqv, D.toPy, PyData.eqv]
  rw [e]
  by_cases h : s = 4
  · subst h; rfl
  · by_cases h2 : s = 5
    · subst h2; rfl
    · have e1 : ((4 : Int) == s) = false := beq_eq_false_iff_ne.mpr fun z => h z.symm
      have e2 : ((5 : Int) == s) = false := beq_eq_false_iff_ne.mpr fun z => h2 z.symm
      rw [e1, e2, decide_eq_false (by omega)]
      rfl
theorem zip_self (ds : List D) : ∀ x, x ∈ List.zipWith pairD ds ds → ∃ d, d ∈ ds ∧ x = .tup [d, d] := by
  induction ds with
  | nil => intro x h; cases h
  | cons d ds ih =>
    intro x h
    rcases List.mem_cons.mp (show x ∈ pairD d d :: List.zipWith pairD ds ds from h) with e | h
    · exact ⟨d, by simp, e⟩
    · obtain ⟨d', h1, h2⟩ := ih x h
      exact ⟨d', List.mem_cons_of_mem _ h1, h2⟩
theorem filter_ff {α : Type} (l : List α) : l.filter (fun _ => false) = [] := by
  induction l with
  | nil => rfl
  | cons a l ih => rw [List.filter_cons_of_neg (by decide), ih]
/-- lists nowhere too long -/
def lenB : Nat → D → Bool
  | 0, _ => true
  | n + 1, d => match d with
    | .tup xs => decide (xs.length ≤ 1000000) && xs.all (lenB n)
    | .lst xs => decide (xs.length ≤ 1000000) && xs.all (lenB n)
    | _ => true
theorem like_seq {n : Nat} {ds : List D} {μ : Store} (ih : ∀ d, D.pd n d = true → lenB n d = true → g__law_like n [d, d] μ = .ok (.bl true) μ) (hp : ds.all (D.pd n) = true) (hl : ds.length ≤ 1000000) (hb : ds.all (lenB n) = true) (c : List D → D) (hc : ∀ xs ys, wZipA (lCons (xVar 0) (lCons (xVar 1) lNil)) [.fz (c xs), .fz (c ys), .fz (.int (srtI (c xs))), .no, .no] μ = .ok (List.zipWith pairD xs ys) μ) :
    xLc (wZipA (lCons (xVar 0) (lCons (xVar 1) lNil))) (gT (gC (gN 3) (gC (gN 4) gE))) (bNot (bVal (xCall (g__law_like n) (lCons (xVar 3) (lCons (xVar 4) lNil))))) (xC (.int 1)) [3, 4] [.fz (c ds), .fz (c ds), .fz (.int (srtI (c ds))), .no, .no] μ = .ok (.lst []) μ := by
  rw [ev_lc (p := fun _ => false) (h := fun x => x) (hc ds ds) rfl (by rw [List.length_zipWith]; omega) fun d hd => ?_, filter_ff]
  · rfl
  · obtain ⟨x, hx, rfl⟩ := zip_self ds d hd
    refine ⟨_, rfl, ?_, fun h => by cases h⟩
    simp [wipeE, ih x (List.all_eq_true.mp hp x hx) (List.all_eq_true.mp hb x hx)]
theorem like_refl : ∀ (n : Nat), n ≤ 60 → ∀ (d : D) (μ : Store), D.pd n d = true → lenB n d = true → g__law_like n [d, d] μ = .ok (.bl true) μ
  | 0, _, d, μ, h, _ => by simp [D.pd] at h
  | n + 1, hn, d, μ, h, hb => by
    have h60 := pd_mono _ 60 d hn h
    have hs := sort_spec d h60 μ
    have he : eqD d d = some (.bl true) := by
      unfold eqD
      rw [h60, eqv_refl 60 d h60]
      rfl
    unfold g__law_like F__law_like
    cases d with
    | scr _ => simp [D.pd] at h
    | dk _ _ => simp [D.pd] at h
    | dt _ _ => simp [D.pd] at h
    | own _ => simp [D.pd] at h
    | tup ds =>
      have hb' : (decide (ds.length ≤ 1000000) && ds.all (lenB n)) = true := hb
      rw [Bool.and_eq_true, decide_eq_true_eq] at hb'
      have hq := like_seq (n := n) (ds := ds) (μ := μ) (fun d h hb => like_refl n (by omega) d μ h hb) h hb'.1 hb'.2 D.tup fun xs ys => by simp [wZipA, lCons, lNil]
      have : srtI (.tup ds) = 4 := rfl
      rw [this] at hq hs
      simp [hs, in45, lenD, hq]
    | lst ds =>
      have hb' : (decide (ds.length ≤ 1000000) && ds.all (lenB n)) = true := hb
      rw [Bool.and_eq_true, decide_eq_true_eq] at hb'
      have hq := like_seq (n := n) (ds := ds) (μ := μ) (fun d h hb => like_refl n (by omega) d μ h hb) h hb'.1 hb'.2 D.lst fun xs ys => by simp [wZipA, lCons, lNil]
      have : srtI (.lst ds) = 5 := rfl
      rw [this] at hq hs
      simp [hs, in45, lenD, hq]
    | non => simp [hs, in45, srtI, he]
    | bl b => simp [hs, in45, srtI, he]
    | int b => simp [hs, in45, srtI, he]
    | str b => simp [hs, in45, srtI, he]
end K75
set_option Elab.async false
set_option linter.all false
set_option maxRecDepth 100000
set_option maxHeartbeats 2000000
namespace K75
open PySem DC
/-! ### rows -/
def sg (b : Bool) : Nat := if b then 117 else 100
def rowS (bs : List Bool) : Str := ⟨(bs.map sg).toArray⟩
theorem rowS_nil : (("" : Str)) = rowS [] := by decide +kernel
theorem rowS_u : (("u" : Str)) = rowS [true] := by decide +kernel
theorem rowS_d : (("d" : Str)) = rowS [false] := by decide +kernel
theorem rowS_ud : (("ud" : Str)) = rowS [true, false] := by decide +kernel
theorem rowS_app (a b : List Bool) : rowS a ++ rowS b = rowS (a ++ b) := by
  show (⟨(a.map sg).toArray ++ (b.map sg).toArray⟩ : Str) = ⟨((a ++ b).map sg).toArray⟩
  rw [List.map_append]
  simp
theorem rowS_len (bs : List Bool) : (rowS bs).length = bs.length := by
  show (bs.map sg).toArray.size = bs.length
  simp
theorem rowS_inj : ∀ {a b : List Bool}, rowS a = rowS b → a = b := by
  intro a b h
  have h1 : (a.map sg).toArray = (b.map sg).toArray := congrArg Str.cps h
  have h2 : a.map sg = b.map sg := by simpa using h1
  have hs : ∀ x y, sg x = sg y → x = y := by decide
  exact List.map_inj_right hs |>.mp h2
theorem strD_row (bs : List Bool) : strD (rowS bs) = bs.map fun b => .str (rowS [b]) := by
  unfold strD rowS
  simp [sg]
theorem eq_u (b : Bool) : eqD (.str (rowS [b])) (.str "u") = some (.bl b) := by
  rw [ev_eqSS, rowS_u]
  cases b with
  | true => simp
  | false =>
    have : ¬ rowS [false] = rowS [true] := fun h => by have := rowS_inj h; simp at this
    simp [this]
theorem add_row {a b : List Bool} (h : a.length + b.length ≤ 1000000) : addD (.str (rowS a)) (.str (rowS b)) = some (.str (rowS (a ++ b))) := by
  show (if Nat.ble ((rowS a).length + (rowS b).length) 1000000 = true then some (D.str (rowS a ++ rowS b)) else none) = _
  rw [rowS_len, rowS_len, if_pos (Nat.ble_eq.mpr h), rowS_app]
theorem some_ud {μ : Store} (h : CupOk μ) : ∃ b μ', g__law_some [.own 0, .str "ud"] μ = .ok (.str (rowS [b])) μ' ∧ CupOk μ' := by
  obtain ⟨v, μ', e, c, v0, v1⟩ := roll_spec (many := 2) h (by omega) (by omega)
  refine ⟨decide (v = 0), μ', ?_, c⟩
  unfold g__law_some F__law_some
  rw [rowS_ud]
  have el : lenD [.str (rowS [true, false])] = some (.int 2) := rfl
  simp [el, e]
  have : v = 0 ∨ v = 1 := by omega
  rcases this with rfl | rfl
  · rfl
  · rfl
theorem row_spec {μ : Store} {most : Int} (h : CupOk μ) (h0 : 0 ≤ most) (h1 : most ≤ 1000) : ∃ bs μ', g__law_row [.own 0, .int most] μ = .ok (.str (rowS bs)) μ' ∧ CupOk μ' ∧ (bs.length : Int) ≤ most := by
  obtain ⟨v, μ1, e, c, v0, v1⟩ := roll_spec (many := most + 1) h (by omega) (by omega)
  obtain ⟨n, rfl⟩ := Int.eq_ofNat_of_zero_le v0
  unfold g__law_row F__law_row
  have hr : rgOk (n : Nat) = true := by unfold rgOk; simp; omega
  have hi : iRg1 (lCons (xCall g__law_roll (lCons (xVar 0) (lCons (xBin addD (xVar 1) (xC (.int 1))) lNil))) lNil) [.fz (.own 0), .fz (.int most), .fz (.str ""), .no] μ = .ok (rangeD 0 n) μ1 := by
    unfold iRg1
    simp [e, hr]
  obtain ⟨ρ', μ', e2, bs, s, hρ, hb, hc⟩ := forL_rel (tg := gN 3) (F := sAsg 2 (xBin addD (xVar 2) (xCall g__law_some (lCons (xVar 0) (lCons (xC (.str "ud")) lNil))))) (ds := rangeD 0 n) (ρ := [.fz (.own 0), .fz (.int most), .fz (.str ""), .no]) (μ := μ1)
    (fun i ρ μ => ∃ bs s, ρ = [.fz (.own 0), .fz (.int most), .fz (.str (rowS bs)), s] ∧ bs.length = i ∧ CupOk μ) ⟨[], .no, by rw [rowS_nil], rfl, c⟩
    (fun i d ρ μ hd ⟨bs, s, hρ, hb, hc⟩ => by
      obtain ⟨b, μ2, e3, c2⟩ := some_ud hc
      subst hρ
      have hl : i < n := by
        have := (List.getElem?_eq_some_iff.mp hd).1
        rw [rangeD_len] at this; exact this
      refine ⟨_, [.fz (.own 0), .fz (.int most), .fz (.str (rowS (bs ++ [b]))), .fz d], μ2, rfl, ?_, bs ++ [b], .fz d, rfl, by simp [hb], c2⟩
      simp [e3, add_row (a := bs) (b := [b]) (by simp; omega)])
  refine ⟨bs, μ', ?_, hc, ?_⟩
  · subst hρ
    simp [hi, e2]
  · rw [hb, rangeD_len]; omega
end K75
set_option Elab.async false
set_option linter.all false
set_option maxRecDepth 100000
set_option maxHeartbeats 2000000
namespace K75
open PySem DC
/-! ### several names at once, evaluated -/
@[simp] theorem ev_mNil {ρ : DC.Env} {μ : Store} : mNil ρ μ = .ok [] μ := rfl
@[simp] theorem ev_mVal {f : XD} {fs : XM} {ρ : DC.Env} {μ : Store} : mVal f fs ρ μ = (f ρ μ).bind fun d μ1 => (fs ρ μ1).bind fun ds μ2 => .ok ((false, d) :: ds) μ2 := rfl
@[simp] theorem ev_mNew {f : XD} {fs : XM} {ρ : DC.Env} {μ : Store} : mNew f fs ρ μ = (f ρ μ).bind fun d μ1 => (fs ρ μ1).bind fun ds μ2 => .ok ((true, d) :: ds) μ2 := rfl
def parE (is : List Nat) (ds : List (Bool × D)) (ρ : DC.Env) (μ : Store) : SRes := match setAll is ds ρ with
  | some ρ' => .nx ρ' μ
  | none => .fail
@[simp] theorem ev_par {fs : XM} {is : List Nat} {ρ : DC.Env} {μ : Store} : sPar is fs ρ μ = (fs ρ μ).st ρ fun ds μ' => parE is ds ρ μ' := rfl
@[simp] theorem parE_nil (ρ : DC.Env) (μ : Store) : parE [] [] ρ μ = .nx ρ μ := rfl
@[simp] theorem parE_cons (i : Nat) (is : List Nat) (b : Bool) (d : D) (ds : List (Bool × D)) (ρ : DC.Env) (μ : Store) : parE (i :: is) ((b, d) :: ds) ρ μ = parE is ds (ρ.set i (if b then .ow d else .fz d)) μ := rfl
@[simp] theorem ev_min (i j : Int) : min2D [.int i, .int j] = some (.int (if j < i then j else i)) := rfl
/-! ### plans -/
abbrev Plan := List (Int × Int)
def planD (p : Plan) : D := .tup (p.map pairI)
def PairOk (p : Int × Int) : Prop := -1 ≤ p.1 ∧ p.1 < p.2 ∧ p.2 ≤ 41
structure PlanOk (p : Plan) : Prop where
  pos : 0 < p.length
  le : p.length ≤ 40
  ok : ∀ x, x ∈ p → PairOk x
  last : ∀ x, p.getLast? = some x → x.2 = x.1 + 1
theorem rgOk_int {i : Int} (h : -1000000 ≤ i) (h2 : i ≤ 1000000) : rgOk i = true := by
  unfold rgOk
  exact Nat.ble_eq.mpr (by omega)
def lowOk (low : Int) (i : Nat) : Prop := -1 ≤ low ∧ low ≤ i
/-- the three branches on way, then the append -/
theorem plan_step {μ : Store} {most many way low : Int} {ps : Plan} {s : Sl} {i : Nat} (hc : CupOk μ) (hl : lowOk low i) (hi : i < 40) (hps : ps.length = i) (hw : 0 ≤ way) (hw3 : way < 3) :
    ∃ low' h μ', L__law_plan_1 [.fz (.own 0), .fz (.int most), .fz (.int many), .fz (.int way), .ow (.lst (ps.map pairI)), .fz (.int low), .fz (.int (1 + (i : Nat)))] μ =
      .nx [.fz (.own 0), .fz (.int most), .fz (.int many), .fz (.int way), .ow (.lst ((ps ++ [(low', h)]).map pairI)), .fz (.int low'), .fz (.int (1 + (i : Nat)))] μ' ∧ CupOk μ' ∧ lowOk low' (i + 1) ∧ PairOk (low', h) ∧ (many = 1 + (i : Nat) → h = low' + 1) := by
  -- the append at the end
  have fin : ∀ (low' : Int) (μ1 : Store), CupOk μ1 → -1 ≤ low' → low' ≤ i → ∃ h μ', sApp 4 (xTup (lCons (xVar 5) (lCons (xIf (bVal (xBin ltD (xVar 6) (xVar 2))) (xCb min2D (lCons (xC (.int 41)) (lCons (xBin addD (xBin addD (xVar 5) (xC (.int 2))) (xCall g__law_roll (lCons (xVar 0) (lCons (xC (.int 4)) lNil)))) lNil))) (xBin addD (xVar 5) (xC (.int 1)))) lNil)))
      [.fz (.own 0), .fz (.int most), .fz (.int many), .fz (.int way), .ow (.lst (ps.map pairI)), .fz (.int low'), .fz (.int (1 + (i : Nat)))] μ1 =
      .nx [.fz (.own 0), .fz (.int most), .fz (.int many), .fz (.int way), .ow (.lst ((ps ++ [(low', h)]).map pairI)), .fz (.int low'), .fz (.int (1 + (i : Nat)))] μ' ∧ CupOk μ' ∧ PairOk (low', h) ∧ (many = 1 + (i : Nat) → h = low' + 1) := by
    intro low' μ1 hc1 hl1 hl2
    by_cases hm : 1 + (i : Int) < many
    · obtain ⟨v, μ2, e, c, v0, v1⟩ := roll_spec (many := 4) hc1 (by omega) (by omega)
      refine ⟨if low' + 2 + v < 41 then low' + 2 + v else 41, μ2, ?_, c, ?_, by omega⟩
      · rw [ev_app (ds := ps.map pairI) (d := pairI (low', if low' + 2 + v < 41 then low' + 2 + v else 41)) (μ' := μ2) rfl (by simp [hm, e, pairI]) (by rw [List.length_map]; omega)]
        simp
      · unfold PairOk
        simp only
        split <;> omega
    · refine ⟨low' + 1, μ1, ?_, hc1, ?_, by omega⟩
      · rw [ev_app (ds := ps.map pairI) (d := pairI (low', low' + 1)) (μ' := μ1) rfl (by simp [hm, pairI]) (by rw [List.length_map]; omega)]
        simp
      · unfold PairOk
        simp only
        omega
  unfold lowOk at hl
  have w3 : way = 0 ∨ way = 1 ∨ way = 2 := by omega
  rcases w3 with rfl | rfl | rfl
  · obtain ⟨v, μ2, e, c, v0, v1⟩ := roll_spec (many := 3) hc (by omega) (by omega)
    have hle : (if (low + if v = 0 then (1:Int) else 0) < (i : Int) then low + (if v = 0 then (1:Int) else 0) else (i : Int)) ≤ i ∧ -1 ≤ (if (low + if v = 0 then (1:Int) else 0) < (i : Int) then low + (if v = 0 then (1:Int) else 0) else (i : Int)) := by
      split <;> split <;> omega
    obtain ⟨h, μ', e2, c2, p2, l2⟩ := fin _ μ2 c hle.2 hle.1
    refine ⟨_, h, μ', ?_, c2, ⟨hle.2, by omega⟩, p2, l2⟩
    have es : (1 + (i : Int) - 1) = i := by omega
    by_cases hv : v = 0
    · simp only [hv, if_true] at e2 ⊢
      simp [e, hv, es, e2]
    · simp only [hv, if_false, Int.add_zero] at e2 ⊢
      simp [e, hv, es, e2]
  · obtain ⟨v, μ2, e, c, v0, v1⟩ := roll_spec (many := 1 + (i : Int) + 1) hc (by omega) (by omega)
    obtain ⟨h, μ', e2, c2, p2, l2⟩ := fin (v - 1) μ2 c (by omega) (by omega)
    refine ⟨_, h, μ', ?_, c2, ⟨by omega, by omega⟩, p2, l2⟩
    simp [e, e2]
  · by_cases h3 : 3 < 1 + (i : Int)
    · have hd := ev_div (i := 1 + (i : Int)) (j := 2) (by omega) (by omega)
      obtain ⟨h, μ', e2, c2, p2, l2⟩ := fin ((1 + (i : Int)) / 2 - 2) μ hc (by omega) (by omega)
      refine ⟨_, h, μ', ?_, c2, ⟨by omega, by omega⟩, p2, l2⟩
      simp [h3, hd, e2]
    · obtain ⟨h, μ', e2, c2, p2, l2⟩ := fin (-1) μ hc (by omega) (by omega)
      refine ⟨_, h, μ', ?_, c2, ⟨by omega, by omega⟩, p2, l2⟩
      simp [h3, e2]
theorem rangeD_at {lo : Int} {n i : Nat} {d : D} (h : (rangeD lo n)[i]? = some d) : i < n ∧ d = .int (lo + (i : Nat)) := by
  have hl : i < n := by
    have := (List.getElem?_eq_some_iff.mp h).1
    rw [rangeD_len] at this; exact this
  rw [rangeD_get hl] at h
  exact ⟨hl, (Option.some.inj h).symm⟩
theorem plan_spec {μ : Store} {most : Int} (hc : CupOk μ) (h0 : 0 < most) (h1 : most ≤ 40) : ∃ p μ', g__law_plan [.own 0, .int most] μ = .ok (planD p) μ' ∧ CupOk μ' ∧ PlanOk p ∧ (p.length : Int) ≤ most := by
  obtain ⟨v, μ1, e1, c1, v0, v1⟩ := roll_spec (many := most) hc h0 (by omega)
  obtain ⟨way, μ2, e2, c2, w0, w1⟩ := roll_spec (many := 3) c1 (by omega) (by omega)
  obtain ⟨n, rfl⟩ := Int.eq_ofNat_of_zero_le v0
  have hn : (1 + (n : Int) + 1 - 1).toNat = n + 1 := by omega
  have hi : iRg2 (lCons (xC (.int 1)) (lCons (xBin addD (xVar 2) (xC (.int 1))) lNil)) [.fz (.own 0), .fz (.int most), .fz (.int (1 + (n : Nat))), .fz (.int way), .ow (.lst []), .fz (.int (-1)), .no] μ2 = .ok (rangeD 1 (n + 1)) μ2 := by
    unfold iRg2
    have r1 := rgOk_int (i := 1) (by omega) (by omega)
    have r2 := rgOk_int (i := 1 + (n : Int) + 1) (by omega) (by omega)
    have hn2 : (1 + (n : Int)).toNat = n + 1 := by omega
    simp [r1, r2, hn, hn2]
  obtain ⟨ρ', μ', e3, ps, low, s, hρ, hps, hl, hok, hlast, c3⟩ := forL_rel (tg := gN 6) (F := L__law_plan_1) (ds := rangeD 1 (n + 1)) (ρ := [.fz (.own 0), .fz (.int most), .fz (.int (1 + (n : Nat))), .fz (.int way), .ow (.lst []), .fz (.int (-1)), .no]) (μ := μ2)
    (fun i ρ μ => ∃ (ps : Plan) (low : Int) (s : Sl), ρ = [.fz (.own 0), .fz (.int most), .fz (.int (1 + (n : Nat))), .fz (.int way), .ow (.lst (ps.map pairI)), .fz (.int low), s] ∧ ps.length = i ∧ lowOk low i ∧ (∀ x, x ∈ ps → PairOk x) ∧ (i = n + 1 → ∀ x, ps.getLast? = some x → x.2 = x.1 + 1) ∧ CupOk μ)
    ⟨[], -1, .no, rfl, rfl, ⟨by omega, by omega⟩, fun x hx => (by cases hx), fun h => (by omega), c2⟩
    (fun i d ρ μ hd ⟨ps, low, s, hρ, hps, hl, hok, _, hc⟩ => by
      obtain ⟨hin, rfl⟩ := rangeD_at hd
      subst hρ
      obtain ⟨low', h, μ3, e4, c4, l4, p4, z4⟩ := plan_step (most := most) (many := 1 + (n : Nat)) (s := s) hc hl (by omega) hps w0 w1
      refine ⟨_, _, μ3, rfl, e4, ps ++ [(low', h)], low', _, rfl, by simp [hps], l4, fun x hx => ?_, fun hh x hx => ?_, c4⟩
      · rcases List.mem_append.mp hx with hx | hx
        · exact hok x hx
        · rw [List.mem_singleton.mp hx]; exact p4
      · rw [List.getLast?_append] at hx
        simp at hx
        rw [← hx]
        exact z4 (by omega))
  rw [rangeD_len] at hps hlast
  refine ⟨ps, μ', ?_, c3, ⟨by omega, by omega, hok, hlast rfl⟩, by omega⟩
  subst hρ
  unfold g__law_plan F__law_plan
  simp [e1, e2, hi, e3, frzE, tupleD, planD]
end K75
set_option Elab.async false
set_option linter.all false
set_option maxRecDepth 100000
set_option maxHeartbeats 2000000
namespace K75
open PySem DC
/-! ### layers -/
def intsD (a : List Int) : D := .lst (a.map D.int)
def stepH (a : List Int) : List Int := List.zipWith (· + ·) (a ++ [0]) (0 :: a)
def inB (l h : Int) (u : Nat) : Bool := decide (l < (u : Int)) && decide ((u : Int) < h)
def openL (l h : Int) (a : List Int) : List Int := a.mapIdx fun u w => if inB l h u then w else 0
def endL (l h : Int) (a : List Int) : List Int := a.mapIdx fun u w => if inB l h u then 0 else w
theorem stepH_len (a : List Int) : (stepH a).length = a.length + 1 := by
  unfold stepH
  simp
theorem openL_len (l h : Int) (a : List Int) : (openL l h a).length = a.length := by unfold openL; simp
theorem endL_len (l h : Int) (a : List Int) : (endL l h a).length = a.length := by unfold endL; simp
def opensT : Plan → List Int → List (List Int)
  | [], _ => []
  | (l, h) :: p, a => openL l h (stepH a) :: opensT p (openL l h (stepH a))
def endsT : Plan → List Int → List (List Int)
  | [], _ => []
  | (l, h) :: p, a => endL l h (stepH a) :: endsT p (openL l h (stepH a))
theorem enum_map {f : Nat → Int → Int} {g : D → D} (hg : ∀ (i : Nat) (w : Int), g (.tup [.int (i : Nat), .int w]) = .int (f i w)) (a : List Int) : (enumD (a.map D.int)).map g = (a.mapIdx f).map D.int := by
  apply List.ext_getElem?
  intro i
  unfold enumD
  rw [List.getElem?_map, List.getElem?_mapIdx, List.getElem?_map, List.getElem?_map, List.getElem?_mapIdx]
  cases a[i]? with
  | none => rfl
  | some w =>
    show some (g _) = _
    rw [hg]
    rfl
theorem enum_mem {a : List Int} {d : D} (h : d ∈ enumD (a.map D.int)) : ∃ (i : Nat) (w : Int), d = .tup [.int (i : Nat), .int w] := by
  obtain ⟨i, hi⟩ := List.getElem?_of_mem h
  unfold enumD at hi
  rw [List.getElem?_mapIdx, List.getElem?_map] at hi
  cases e : a[i]? with
  | none => rw [e] at hi; cases hi
  | some w => rw [e] at hi; exact ⟨i, w, (Option.some.inj hi).symm⟩
theorem zip_map {g : D → D} (hg : ∀ x y : Int, g (.tup [.int x, .int y]) = .int (x + y)) : ∀ (a b : List Int), (List.zipWith pairD (a.map D.int) (b.map D.int)).map g = (List.zipWith (· + ·) a b).map D.int
  | [], b => by simp
  | _ :: _, [] => by simp
  | x :: a, y :: b => by
    show g (pairD (.int x) (.int y)) :: (List.zipWith pairD (a.map D.int) (b.map D.int)).map g = .int (x + y) :: (List.zipWith (· + ·) a b).map D.int
    rw [zip_map hg a b, show g (pairD (.int x) (.int y)) = .int (x + y) from hg x y]
theorem zip_mem {d : D} : ∀ {a b : List Int}, d ∈ List.zipWith pairD (a.map D.int) (b.map D.int) → ∃ x y : Int, d = .tup [.int x, .int y]
  | [], b, h => by simp at h
  | _ :: _, [], h => by simp at h
  | x :: a, y :: b, h => by
    rcases List.mem_cons.mp (show d ∈ pairD (.int x) (.int y) :: List.zipWith pairD (a.map D.int) (b.map D.int) from h) with e | h
    · exact ⟨x, y, e⟩
    · exact zip_mem h
theorem addL_ok {xs ys : List D} (h : xs.length + ys.length ≤ 1000000) : addD (.lst xs) (.lst ys) = some (.lst (xs ++ ys)) := by
  show (if Nat.ble (xs.length + ys.length) 1000000 = true then some (D.lst (xs ++ ys)) else none) = _
  rw [if_pos (Nat.ble_eq.mpr h)]
def sumF : D → D
  | .tup [.int x, .int y] => .int (x + y)
  | _ => .non
section
variable {pl : D} {os es : List D} {l h : Int} {a : List Int} {s5 s6 : Sl} {μ : Store}
theorem lay_c1 (ha : a.length ≤ 1000) : C_layers_of_plan_1 [.fz pl, .ow (.lst os), .ow (.lst es), .fz (.int l), .fz (.int h), .fz (intsD a), s6, .no, .no, .no, .no] μ = .ok (intsD (stepH a)) μ := by
  have e0 : a.map D.int ++ [D.int 0] = (a ++ [0]).map D.int := by simp
  have e1 : D.int 0 :: a.map D.int = (0 :: a).map D.int := by simp
  have hs : wZipA (lCons (xBin addD (xVar 5) (xLst (lCons (xC (.int 0)) lNil))) (lCons (xBin addD (xLst (lCons (xC (.int 0)) lNil)) (xVar 5)) lNil)) [.fz pl, .ow (.lst os), .ow (.lst es), .fz (.int l), .fz (.int h), .fz (intsD a), s6, .no, .no, .no, .no] μ
      = .ok (List.zipWith pairD ((a ++ [0]).map D.int) ((0 :: a).map D.int)) μ := by
    unfold wZipA
    have h1 := addL_ok (xs := a.map D.int) (ys := [.int 0]) (by simp; omega)
    have h2 := addL_ok (xs := [.int 0]) (ys := a.map D.int) (by simp; omega)
    simp [intsD, h1, h2]
  refine (ev_lcT (h := sumF) hs rfl (by simp; omega) fun d hd => ?_).trans ?_
  · obtain ⟨x, y, rfl⟩ := zip_mem hd
    exact ⟨_, rfl, by simp [wipeE, sumF]⟩
  · rw [zip_map (fun x y => rfl)]
    rfl
def inF (l h : Int) (k : Bool) : D → D
  | .tup [.int u, .int w] => if (decide (l < u) && decide (u < h)) = k then .int w else .int 0
  | _ => .non
theorem lay_c2 (ha : a.length ≤ 1000) : C_layers_of_plan_2 [.fz pl, .ow (.lst os), .ow (.lst es), .fz (.int l), .fz (.int h), s5, .fz (intsD a), .no, .no, .no, .no] μ = .ok (intsD (openL l h a)) μ := by
  have hs : wEnumA (xVar 6) [.fz pl, .ow (.lst os), .ow (.lst es), .fz (.int l), .fz (.int h), s5, .fz (intsD a), .no, .no, .no, .no] μ = .ok (enumD (a.map D.int)) μ := by
    unfold wEnumA
    simp [intsD]
  refine (ev_lcT (h := inF l h true) hs rfl (by rw [enumD_len]; simp; omega) fun d hd => ?_).trans ?_
  · obtain ⟨i, w, rfl⟩ := enum_mem hd
    refine ⟨_, rfl, ?_⟩
    by_cases h1 : l < (i : Int) <;> by_cases h2 : (i : Int) < h <;> simp [wipeE, inF, h1, h2]
  · rw [enum_map (f := fun u w => if inB l h u then w else 0) fun i w => ?_]
    · rfl
    · unfold inF inB
      by_cases h1 : l < (i : Int) <;> by_cases h2 : (i : Int) < h <;> simp [h1, h2]
theorem lay_c3 (ha : a.length ≤ 1000) : C_layers_of_plan_3 [.fz pl, .ow (.lst os), .ow (.lst es), .fz (.int l), .fz (.int h), s5, .fz (intsD a), .no, .no, .no, .no] μ = .ok (intsD (endL l h a)) μ := by
  have hs : wEnumA (xVar 6) [.fz pl, .ow (.lst os), .ow (.lst es), .fz (.int l), .fz (.int h), s5, .fz (intsD a), .no, .no, .no, .no] μ = .ok (enumD (a.map D.int)) μ := by
    unfold wEnumA
    simp [intsD]
  refine (ev_lcT (h := inF l h false) hs rfl (by rw [enumD_len]; simp; omega) fun d hd => ?_).trans ?_
  · obtain ⟨i, w, rfl⟩ := enum_mem hd
    refine ⟨_, rfl, ?_⟩
    by_cases h1 : l < (i : Int) <;> by_cases h2 : (i : Int) < h <;> simp [wipeE, inF, h1, h2]
  · rw [enum_map (f := fun u w => if inB l h u then 0 else w) fun i w => ?_]
    · rfl
    · unfold inF inB
      by_cases h1 : l < (i : Int) <;> by_cases h2 : (i : Int) < h <;> simp [h1, h2]
theorem lay_step (ha : a.length ≤ 999) (ho : os.length ≤ 1000) (he : es.length ≤ 1000) : L_layers_of_plan_4 [.fz pl, .ow (.lst (os ++ [intsD a])), .ow (.lst es), .fz (.int l), .fz (.int h), s5, s6, .no, .no, .no, .no] μ =
    .nx [.fz pl, .ow (.lst (os ++ [intsD a] ++ [intsD (openL l h (stepH a))])), .ow (.lst (es ++ [intsD (endL l h (stepH a))])), .fz (.int l), .fz (.int h), .fz (intsD a), .fz (intsD (stepH a)), .no, .no, .no, .no] μ := by
  have e0 : xIxO 1 (xUn negD (xC (.int 1))) [.fz pl, .ow (.lst (os ++ [intsD a])), .ow (.lst es), .fz (.int l), .fz (.int h), s5, s6, .no, .no, .no, .no] μ = .ok (intsD a) μ := by
    show (Res.ofO (L2.atI (os ++ [intsD a]) (-1)) μ : Res D) = _
    rw [L2.atI_last]
    rfl
  have hl : (stepH a).length ≤ 1000 := by rw [stepH_len]; omega
  simp only [ev_seq, ev_asg, e0, ev_st_ok, List.set_cons_succ, List.set_cons_zero, seq_nx]
  rw [lay_c1 (by omega)]
  simp only [ev_st_ok, List.set_cons_succ, List.set_cons_zero, seq_nx, ev_seq]
  rw [ev_app (ds := os ++ [intsD a]) (d := intsD (openL l h (stepH a))) (μ' := μ) rfl (lay_c2 hl) (by simp; omega)]
  simp only [List.set_cons_succ, List.set_cons_zero, seq_nx]
  rw [ev_app (ds := es) (d := intsD (endL l h (stepH a))) (μ' := μ) rfl (lay_c3 hl) (by omega)]
  simp only [List.set_cons_succ, List.set_cons_zero]
end
theorem opensT_len : ∀ (p : Plan) (a : List Int), (opensT p a).length = p.length
  | [], _ => rfl
  | (l, h) :: p, a => by simp [opensT, opensT_len p]
theorem endsT_len : ∀ (p : Plan) (a : List Int), (endsT p a).length = p.length
  | [], _ => rfl
  | (l, h) :: p, a => by simp [endsT, endsT_len p]
theorem lay_loop {pl : D} {μ : Store} : ∀ (p : Plan) (a : List Int) (os es : List D) (s3 s4 s5 s6 : Sl), a.length + p.length ≤ 900 → os.length + p.length ≤ 900 → es.length + p.length ≤ 900 → ∃ s3' s4' s5' s6',
    sForL (gT (gC (gN 3) (gC (gN 4) gE))) L_layers_of_plan_4 (p.map pairI) [.fz pl, .ow (.lst (os ++ [intsD a])), .ow (.lst es), s3, s4, s5, s6, .no, .no, .no, .no] μ =
    .nx [.fz pl, .ow (.lst (os ++ [intsD a] ++ (opensT p a).map intsD)), .ow (.lst (es ++ (endsT p a).map intsD)), s3', s4', s5', s6', .no, .no, .no, .no] μ
  | [], a, os, es, s3, s4, s5, s6, _, _, _ => ⟨s3, s4, s5, s6, by simp [opensT, endsT]⟩
  | (l, h) :: p, a, os, es, s3, s4, s5, s6, h1, h2, h3 => by
    simp only [List.length_cons] at h1 h2 h3
    have hl : (openL l h (stepH a)).length = a.length + 1 := by rw [openL_len, stepH_len]
    obtain ⟨s3', s4', s5', s6', e⟩ := lay_loop (pl := pl) (μ := μ) p (openL l h (stepH a)) (os ++ [intsD a]) (es ++ [intsD (endL l h (stepH a))]) (.fz (.int l)) (.fz (.int h)) (.fz (intsD a)) (.fz (intsD (stepH a))) (by omega) (by simp; omega) (by simp; omega)
    refine ⟨s3', s4', s5', s6', ?_⟩
    rw [List.map_cons, forL_cons (ρ1 := [.fz pl, .ow (.lst (os ++ [intsD a])), .ow (.lst es), .fz (.int l), .fz (.int h), s5, s6, .no, .no, .no, .no]) rfl (lay_step (by omega) (by omega) (by omega)), e]
    simp [opensT, endsT]
theorem layers_spec {p : Plan} (hp : p.length ≤ 40) (μ : Store) : g_layers_of_plan [planD p] μ = .ok (.tup [.lst (([1] :: opensT p [1]).map intsD), .lst ((endsT p [1]).map intsD)]) μ := by
  obtain ⟨s3, s4, s5, s6, e⟩ := lay_loop (pl := planD p) (μ := μ) p [1] [] [] .no .no .no .no (by simp; omega) (by simp; omega) (by simp; omega)
  unfold g_layers_of_plan F_layers_of_plan
  have e' := e
  simp only [List.nil_append, intsD, List.map_cons, List.map_nil] at e'
  simp [planD] at e' ⊢
  simp [e', frzE, intsD]
end K75
set_option Elab.async false
set_option linter.all false
set_option maxRecDepth 100000
set_option maxHeartbeats 2000000
namespace K75
open PySem DC
/-! ### which values are plans -/
def isIntB : D → Bool
  | .int _ => true
  | _ => false
def wholeB (lo hi : Int) : D → Bool
  | .int i => decide (lo ≤ i) && decide (i ≤ hi)
  | _ => false
theorem not_dt {n : Nat} {d : D} (h : D.pd n d = true) : ∀ ks vs, d ≠ .dt ks vs := fun ks vs e => by
  subst e
  cases n <;> simp [D.pd] at h
theorem is_integer_spec {n : Nat} {d : D} (h : D.pd n d = true) (μ : Store) : g_is_integer [d] μ = .ok (.bl (isIntB d)) μ := by
  have := not_dt h
  unfold g_is_integer F_is_integer
  cases d with
  | dt ks vs => exact absurd rfl (this _ _)
  | _ => simp [isiD, Ty.has, isIntB]
theorem is_whole_spec {n : Nat} {d : D} {lo hi : Int} (h : D.pd n d = true) (μ : Store) : g_is_whole [d, .int lo, .int hi] μ = .ok (.bl (wholeB lo hi d)) μ := by
  have hi' := is_integer_spec h μ
  unfold g_is_whole F_is_whole
  cases d with
  | int i =>
    by_cases h1 : lo ≤ i
    · simp [hi', isIntB, wholeB, h1]
    · simp [hi', isIntB, wholeB, h1]
  | _ => simp [hi', isIntB, wholeB]
def tupB (lo hi : Int) : D → Bool
  | .tup xs => decide (lo ≤ (xs.length : Int)) && decide ((xs.length : Int) ≤ hi)
  | _ => false
theorem tupB_tup (lo hi : Int) (xs : List D) : tupB lo hi (.tup xs) = (decide (lo ≤ (xs.length : Int)) && decide ((xs.length : Int) ≤ hi)) := rfl
theorem is_tuple_spec {n : Nat} {d : D} {lo hi : Int} (h : D.pd n d = true) (μ : Store) : g_is_tuple_of [d, .int lo, .int hi] μ = .ok (.bl (tupB lo hi d)) μ := by
  have := not_dt h
  unfold g_is_tuple_of F_is_tuple_of
  cases d with
  | dt ks vs => exact absurd rfl (this _ _)
  | tup xs =>
    by_cases h1 : lo ≤ (xs.length : Int)
    · simp [isiD, Ty.has, tupB, lenD, h1]
    · simp [isiD, Ty.has, tupB, lenD, h1]
  | _ => simp [isiD, Ty.has, tupB]
def okPairB : D → Bool
  | .tup [.int l, .int h] => decide (-1 ≤ l) && decide (l ≤ 41) && decide (-1 ≤ h) && decide (h ≤ 41) && decide (l < h)
  | _ => false
theorem bounds_c {ds : List D} {n : Nat} (hp : ds.all (D.pd n) = true) (hl : ds.length ≤ 1000) (μ : Store) : C_fits_bounds_1 [.fz (.tup ds), .no] μ = .ok (.lst (ds.map fun d => .bl (wholeB (-1) 41 d))) μ := by
  refine ev_lcT (h := fun d => .bl (wholeB (-1) 41 d)) (ds := ds) (μ' := μ) (by simp) rfl (by omega) fun d hd => ?_
  refine ⟨_, rfl, ?_⟩
  simp [wipeE, is_whole_spec (List.all_eq_true.mp hp d hd)]
theorem bls_bl {f : D → Bool} : ∀ ds : List D, D.bls (ds.map fun d => .bl (f d)) = some (ds.map f)
  | [] => rfl
  | d :: ds => by
    show (D.bls (ds.map fun d => .bl (f d))).map (f d :: ·) = _
    rw [bls_bl ds]
    rfl
theorem all_bl {f : D → Bool} (ds : List D) : allD [.lst (ds.map fun d => .bl (f d))] = some (.bl (ds.all f)) := by
  show (D.bls (ds.map fun d => .bl (f d))).map (fun ns => D.bl (ns.all id)) = _
  rw [bls_bl]
  simp
@[simp] theorem all_two (a b : Bool) : allD [.lst [.bl a, .bl b]] = some (.bl (a && b)) := by cases a <;> cases b <;> rfl
theorem fits_bounds_spec {n : Nat} {d : D} (h : D.pd (n + 1) d = true) (μ : Store) : g_fits_bounds [d] μ = .ok (.bl (okPairB d)) μ := by
  have ht := is_tuple_spec (lo := 2) (hi := 2) h μ
  unfold g_fits_bounds F_fits_bounds
  cases d with
  | tup xs =>
    have hp : xs.all (D.pd n) = true := h
    by_cases hx : xs.length = 2
    · match xs, hx with
      | [x, y], _ =>
        have hc := bounds_c hp (by simp) μ
        simp only [List.map_cons, List.map_nil] at hc
        have e1 : tupB 2 2 (.tup [x, y]) = true := rfl
        rw [e1] at ht
        have i0 : ixS μ (.tup [x, y]) (.int 0) = some x := rfl
        have i1 : ixS μ (.tup [x, y]) (.int 1) = some y := rfl
        cases x with
        | int l =>
          cases y with
          | int k =>
            by_cases h1 : -1 ≤ l <;> by_cases h2 : l ≤ 41 <;> by_cases h3 : -1 ≤ k <;> by_cases h4 : k ≤ 41 <;> simp [ht, hc, okPairB, wholeB, i0, i1, h1, h2, h3, h4]
          | _ => simp [ht, hc, okPairB, wholeB]
        | _ => simp [ht, hc, okPairB, wholeB]
    · have e1 : tupB 2 2 (.tup xs) = false := by
        rw [tupB_tup]
        by_cases h2 : (2 : Int) ≤ (xs.length : Int)
        · rw [decide_eq_true h2, decide_eq_false (by omega)]; rfl
        · rw [decide_eq_false h2]; rfl
      have e2 : okPairB (.tup xs) = false := by
        unfold okPairB
        split
        · rename_i l k e
          cases e
          exact absurd rfl hx
        · rfl
      rw [e1] at ht
      simp [ht, e2]
  | _ => simp [ht, tupB, okPairB]
/-- the last pair ends at one -/
def lastB (ds : List D) : Bool := match ds.getLast? with
  | some (.tup [.int l, .int h]) => decide (h = l + 1)
  | _ => false
def okPlanB : D → Bool
  | .tup ds => decide (1 ≤ ds.length) && decide (ds.length ≤ 40) && ds.all okPairB && lastB ds
  | _ => false
theorem fits_c {ds : List D} {n : Nat} (hp : ds.all (D.pd (n + 1)) = true) (hl : ds.length ≤ 1000) (μ : Store) : C_fits_end_plan_1 [.fz (.tup ds), .no] μ = .ok (.lst (ds.map fun d => .bl (okPairB d))) μ := by
  refine ev_lcT (h := fun d => .bl (okPairB d)) (ds := ds) (μ' := μ) (by simp) rfl (by omega) fun d hd => ?_
  refine ⟨_, rfl, ?_⟩
  simp [wipeE, fits_bounds_spec (List.all_eq_true.mp hp d hd)]
theorem pair_of {d : D} (h : okPairB d = true) : ∃ l k : Int, d = .tup [.int l, .int k] ∧ PairOk (l, k) := by
  unfold okPairB at h
  split at h
  · rename_i l k
    simp only [Bool.and_eq_true, decide_eq_true_eq] at h
    exact ⟨l, k, rfl, by unfold PairOk; simp only; omega⟩
  · cases h
theorem last_of {ds : List D} (h : 0 < ds.length) (ha : ds.all okPairB = true) : ∃ l k : Int, ds.getLast? = some (.tup [.int l, .int k]) ∧ PairOk (l, k) ∧ L2.atI ds (-1) = some (.tup [.int l, .int k]) := by
  have hne : ds ≠ [] := fun e => by subst e; simp at h
  obtain ⟨l, k, e, hk⟩ := pair_of (List.all_eq_true.mp ha _ (List.getLast_mem hne))
  refine ⟨l, k, by rw [List.getLast?_eq_some_getLast hne, e], hk, ?_⟩
  rw [← List.dropLast_concat_getLast hne, L2.atI_last, e]
theorem fits_spec {n : Nat} {d : D} (h : D.pd (n + 2) d = true) (μ : Store) : g_fits_end_plan [d] μ = .ok (.bl (okPlanB d)) μ := by
  have ht := is_tuple_spec (lo := 1) (hi := 40) h μ
  unfold g_fits_end_plan F_fits_end_plan
  cases d with
  | tup ds =>
    have hp : ds.all (D.pd (n + 1)) = true := h
    by_cases h1 : 1 ≤ ds.length
    · by_cases h2 : ds.length ≤ 40
      · have hc := fits_c hp (by omega) μ
        have hb := all_bl (f := okPairB) ds
        have e1 : tupB 1 40 (.tup ds) = true := by
          rw [tupB_tup]
          rw [decide_eq_true (by omega), decide_eq_true (by omega)]; rfl
        rw [e1] at ht
        by_cases h3 : ds.all okPairB = true
        · obtain ⟨l, k, g1, g2, g3⟩ := last_of h1 h3
          have i0 : ixS μ (.tup ds) (.int (-1)) = some (.tup [.int l, .int k]) := g3
          have j0 : ixS μ (.tup [.int l, .int k]) (.int 0) = some (.int l) := rfl
          have j1 : ixS μ (.tup [.int l, .int k]) (.int 1) = some (.int k) := rfl
          simp only [h3] at hb
          simp [ht, hc, hb, i0, j0, j1]
          simp [okPlanB, lastB, h1, h2, h3, g1]
        · have h3' : ds.all okPairB = false := by cases e : ds.all okPairB with | true => exact absurd e h3 | false => rfl
          simp only [h3'] at hb
          simp [ht, hc, hb]
          simp [okPlanB, h3']
      · have e1 : tupB 1 40 (.tup ds) = false := by
          rw [tupB_tup]
          rw [decide_eq_true (show (1 : Int) ≤ (ds.length : Int) by omega), decide_eq_false (by omega)]; rfl
        rw [e1] at ht
        simp [ht, okPlanB, h2]
    · have e1 : tupB 1 40 (.tup ds) = false := by
        rw [tupB_tup]
        rw [decide_eq_false (show ¬ (1 : Int) ≤ (ds.length : Int) by omega)]; rfl
      rw [e1] at ht
      simp [ht, okPlanB, h1]
  | _ => simp [ht, tupB, okPlanB]
theorem is_end_spec {n : Nat} {d : D} (h : D.pd (n + 2) d = true) (μ : Store) : g_is_end_plan [d] μ = .ok (.bl (okPlanB d)) μ := by
  unfold g_is_end_plan F_is_end_plan
  simp [fits_spec h]
end K75
set_option Elab.async false
set_option linter.all false
set_option maxRecDepth 100000
set_option maxHeartbeats 2000000
namespace K75
open PySem DC
/-! ### _law_is_plan -/
def oddB : D → Bool
  | .tup xs => decide (xs.length ≠ 2)
  | _ => true
theorem isp_c {ds : List D} {n : Nat} {s1 s2 : Sl} (hp : ds.all (D.pd n) = true) (hl : ds.length ≤ 1000) (μ : Store) : C__law_is_plan_1 [.fz (.tup ds), s1, s2, .no] μ = .ok (.lst ((ds.filter oddB).map id)) μ := by
  refine ev_lc (p := oddB) (h := id) (ds := ds) (μ' := μ) (by simp) rfl (by omega) fun d hd => ?_
  have hd' := not_dt (List.all_eq_true.mp hp d hd)
  refine ⟨_, rfl, ?_, fun _ => by simp [wipeE]⟩
  cases d with
  | dt ks vs => exact absurd rfl (hd' _ _)
  | tup xs =>
    by_cases hx : xs.length = 2
    · simp [wipeE, isiD, Ty.has, lenD, oddB, hx]
    · have : ¬ (xs.length : Int) = 2 := by omega
      simp [wipeE, isiD, Ty.has, lenD, oddB, hx, this]
  | _ => simp [wipeE, isiD, Ty.has, oddB]
theorem ne_nil {n : Nat} {xs : List D} (hn : n < 60) (h : xs.all (D.pd n) = true) : neD (.lst xs) (.lst []) = some (.bl (decide (xs ≠ []))) := by
  unfold neD
  have h1 : D.pd 60 (.lst xs) = true := pd_mono (n + 1) 60 _ (by omega) h
  rw [h1]
  show some (D.bl (!D.eqv (.lst xs) (.lst []))) = _
  unfold D.eqv
  cases xs with
  | nil => simp [D.toPy, D.toPyA, PyData.eqv, PyData.eqvAll]
  | cons x xs => simp [D.toPy, D.toPyA, PyData.eqv, PyData.eqvAll]
theorem all_filter {α : Type} {p q : α → Bool} {l : List α} (h : l.all p = true) : (l.filter q).all p = true := by
  rw [List.all_eq_true] at h ⊢
  exact fun x hx => h x (List.mem_filter.mp hx).1
/-- the loop: all pairs good, or away with false -/
theorem isp_loop {pl : D} {n : Nat} {μ : Store} (hn : n < 60) : ∀ (ds : List D) (s1 s2 : Sl), ds.all (D.pd (n + 1)) = true → (∀ d, d ∈ ds → oddB d = false) →
    (ds.all okPairB = true → ∃ s1' s2', sForL (gT (gC (gN 1) (gC (gN 2) gE))) L__law_is_plan_2 ds [.fz pl, s1, s2, .no] μ = .nx [.fz pl, s1', s2', .no] μ) ∧
    (ds.all okPairB = false → sForL (gT (gC (gN 1) (gC (gN 2) gE))) L__law_is_plan_2 ds [.fz pl, s1, s2, .no] μ = .rt (.bl false) μ)
  | [], s1, s2, _, _ => ⟨fun _ => ⟨s1, s2, rfl⟩, fun h => by cases h⟩
  | d :: ds, s1, s2, hp, ho => by
    rw [List.all_cons, Bool.and_eq_true] at hp
    obtain ⟨hd, hp⟩ := hp
    have hod := ho d (by simp)
    have ih := fun s1 s2 => isp_loop (pl := pl) (μ := μ) hn ds s1 s2 hp fun x hx => ho x (List.mem_cons_of_mem _ hx)
    cases d with
    | tup xs =>
      have hx : xs.length = 2 := by
        have : decide (xs.length ≠ 2) = false := hod
        simpa using this
      match xs, hx with
      | [x, y], _ =>
        have hxy : [x, y].all (D.pd n) = true := hd
        simp only [List.all_cons, List.all_nil, Bool.and_true, Bool.and_eq_true] at hxy
        have p1 := pd_mono n 60 x (by omega) hxy.1
        have p2 := pd_mono n 60 y (by omega) hxy.2
        have e1 := sort_spec x p1 μ
        have e2 := sort_spec y p2 μ
        have bad : okPairB (.tup [x, y]) = false → L__law_is_plan_2 [.fz pl, .fz x, .fz y, .no] μ = .rt (.bl false) μ := by
          intro hb
          cases x with
          | int l =>
            cases y with
            | int k =>
              have : ¬ (-1 ≤ l ∧ l < k ∧ k ≤ 41) := fun z => by
                have : okPairB (.tup [.int l, .int k]) = true := by
                  show (decide (-1 ≤ l) && decide (l ≤ 41) && decide (-1 ≤ k) && decide (k ≤ 41) && decide (l < k)) = true
                  simp only [Bool.and_eq_true, decide_eq_true_eq]
                  omega
                rw [this] at hb; cases hb
              by_cases h1 : -1 ≤ l
              · by_cases h2 : l < k
                · have h3 : ¬ k ≤ 41 := fun z => this ⟨h1, h2, z⟩
                  simp [e1, e2, srtI, h1, h2, h3]
                · simp [e1, e2, srtI, h1, h2]
              · simp [e1, e2, srtI, h1]
            | _ => simp [e1, e2, srtI]
          | _ => simp [e1, e2, srtI]
        have good : okPairB (.tup [x, y]) = true → L__law_is_plan_2 [.fz pl, .fz x, .fz y, .no] μ = .nx [.fz pl, .fz x, .fz y, .no] μ := by
          intro hb
          obtain ⟨l, k, e, hk⟩ := pair_of hb
          cases e
          obtain ⟨h1, h2, h3⟩ := hk
          simp only at h1 h2 h3
          simp [e1, e2, srtI, h1, h2, h3]
        refine ⟨fun h => ?_, fun h => ?_⟩
        · rw [List.all_cons, Bool.and_eq_true] at h
          obtain ⟨s1', s2', e⟩ := (ih (.fz x) (.fz y)).1 h.2
          exact ⟨s1', s2', by rw [forL_cons (ρ1 := [.fz pl, .fz x, .fz y, .no]) rfl (good h.1), e]⟩
        · cases hb : okPairB (.tup [x, y]) with
          | false => exact forL_rt (ρ1 := [.fz pl, .fz x, .fz y, .no]) rfl (bad hb)
          | true =>
            rw [List.all_cons, hb, Bool.true_and] at h
            rw [forL_cons (ρ1 := [.fz pl, .fz x, .fz y, .no]) rfl (good hb)]
            exact (ih (.fz x) (.fz y)).2 h
    | _ => cases hod
theorem okPair_odd {d : D} (h : oddB d = true) : okPairB d = false := by
  cases d with
  | tup xs =>
    have hx : ¬ xs.length = 2 := by
      have : decide (xs.length ≠ 2) = true := h
      simpa using this
    unfold okPairB
    split
    · rename_i l k e
      cases e
      exact absurd rfl hx
    · rfl
  | _ => rfl
theorem is_plan_spec {n : Nat} {d : D} (hn : n < 58) (h : D.pd (n + 2) d = true) (μ : Store) : g__law_is_plan [d] μ = .ok (.bl (okPlanB d)) μ := by
  have hnd := not_dt h
  unfold g__law_is_plan F__law_is_plan
  cases d with
  | dt ks vs => exact absurd rfl (hnd _ _)
  | tup ds =>
    have hp : ds.all (D.pd (n + 1)) = true := h
    by_cases h1 : 1 ≤ ds.length
    · by_cases h2 : ds.length ≤ 40
      · have i1 : (1 : Int) ≤ (ds.length : Int) := by omega
        have i2 : (ds.length : Int) ≤ 40 := by omega
        have hc := isp_c (s1 := .no) (s2 := .no) hp (by omega) μ
        have hne := ne_nil (n := n + 1) (xs := (ds.filter oddB).map id) (by omega) (by rw [List.map_id]; exact all_filter hp)
        by_cases ho : ds.filter oddB = []
        · have ho' : ∀ d, d ∈ ds → oddB d = false := fun d hd => by
            cases e : oddB d with
            | false => rfl
            | true =>
              have : d ∈ ds.filter oddB := List.mem_filter.mpr ⟨hd, e⟩
              rw [ho] at this
              cases this
          obtain ⟨g1, g2⟩ := isp_loop (pl := .tup ds) (μ := μ) (by omega) ds .no .no hp ho'
          rw [ho] at hc hne
          simp only [List.map_nil] at hc hne
          by_cases h3 : ds.all okPairB = true
          · obtain ⟨s1', s2', e⟩ := g1 h3
            obtain ⟨l, k, q1, q2, q3⟩ := last_of h1 h3
            have k0 : ixS μ (.tup ds) (.int (-1)) = some (.tup [.int l, .int k]) := q3
            have j0 : ixS μ (.tup [.int l, .int k]) (.int 0) = some (.int l) := rfl
            have j1 : ixS μ (.tup [.int l, .int k]) (.int 1) = some (.int k) := rfl
            simp [isiD, Ty.has, lenD, i1, i2, hc, hne, e, k0, j0, j1]
            simp [okPlanB, lastB, h1, h2, h3, q1]
          · have h3' : ds.all okPairB = false := by cases e : ds.all okPairB with | true => exact absurd e h3 | false => rfl
            have e := g2 h3'
            simp [isiD, Ty.has, lenD, i1, i2, hc, hne, e]
            simp [okPlanB, h3']
        · have ho2 : (ds.filter oddB).map id ≠ [] := by rw [List.map_id]; exact ho
          rw [decide_eq_true ho2] at hne
          have h3' : ds.all okPairB = false := by
            obtain ⟨x, hx⟩ := List.exists_mem_of_ne_nil _ ho
            obtain ⟨x1, x2⟩ := List.mem_filter.mp hx
            cases e : ds.all okPairB with
            | false => rfl
            | true =>
              have z := (okPair_odd x2).symm.trans (List.all_eq_true.mp e x x1)
              cases z
          simp only [List.map_id] at hc hne
          simp [isiD, Ty.has, lenD, i1, i2, hc, hne]
          simp [okPlanB, h3']
      · have i1 : (1 : Int) ≤ (ds.length : Int) := by omega
        have i2 : ¬ (ds.length : Int) ≤ 40 := by omega
        simp [isiD, Ty.has, lenD, i1, i2, okPlanB, h2]
    · have i1 : ¬ (1 : Int) ≤ (ds.length : Int) := by omega
      simp [isiD, Ty.has, lenD, i1, okPlanB, h1]
  | _ => simp [isiD, Ty.has, okPlanB]
end K75
set_option Elab.async false
set_option linter.all false
set_option maxRecDepth 100000
set_option maxHeartbeats 2000000
namespace K75
open PySem DC
/-! ### points -/
def enumI (row : List Int) : List (Nat × Int) := row.mapIdx fun u w => (u, w)
def rowPts (k : Nat) (row : List Int) : List (Int × Int × Int) := ((enumI row).filter fun e => decide (0 < e.2)).map fun e => ((k : Int) + 1, (e.1 : Int), e.2)
def ptsT : Nat → List (List Int) → List (Int × Int × Int)
  | _, [] => []
  | k, r :: rs => rowPts k r ++ ptsT (k + 1) rs
def pt3 (t : Int × Int × Int) : D := .tup [.int t.1, .int t.2.1, .int t.2.2]
theorem enumI_len (a : List Int) : (enumI a).length = a.length := by unfold enumI; simp
theorem rowPts_len (k : Nat) (row : List Int) : (rowPts k row).length ≤ row.length := by
  unfold rowPts
  rw [List.length_map, ← enumI_len row]
  exact List.length_filter_le _ _
theorem enumD_ints (a : List Int) : enumD (a.map D.int) = (enumI a).map fun e => .tup [.int (e.1 : Nat), .int e.2] := by
  unfold enumD enumI
  apply List.ext_getElem?
  intro i
  rw [List.getElem?_mapIdx, List.getElem?_map, List.getElem?_map, List.getElem?_mapIdx]
  cases a[i]? <;> rfl
def posF : D → Bool
  | .tup [.int _, .int w] => decide (0 < w)
  | _ => false
def ptF (k : Nat) : D → D
  | .tup [.int u, .int w] => .tup [.int ((k : Int) + 1), .int u, .int w]
  | _ => .non
theorem pts_c {pl : D} {fs : List D} {k : Nat} {row : List Int} {μ : Store} (hr : row.length ≤ 1000) : C_points_in_plan_1 [.fz pl, .fz (.lst fs), .fz (.int (k : Nat)), .fz (intsD row), .no, .no] μ = .ok (.lst ((rowPts k row).map pt3)) μ := by
  refine (ev_lc (p := posF) (h := ptF k) (ds := enumD (row.map D.int)) (μ' := μ) (by unfold wEnumA; simp [intsD]) rfl (by rw [enumD_len]; simp; omega) fun d hd => ?_).trans ?_
  · obtain ⟨i, w, rfl⟩ := enum_mem hd
    exact ⟨_, rfl, by simp [wipeE, posF], fun _ => by simp [wipeE, ptF]⟩
  · rw [enumD_ints, List.filter_map, List.map_map]
    unfold rowPts
    rw [List.map_map]
    rfl
def enumR : Nat → List (List Int) → List D
  | _, [] => []
  | k, r :: rs => .tup [.int (k : Nat), intsD r] :: enumR (k + 1) rs
theorem enumR_eq : ∀ (k : Nat) (rs : List (List Int)), (rs.map intsD).mapIdx (fun i x => D.tup [.int ((k + i : Nat) : Int), x]) = enumR k rs
  | _, [] => rfl
  | k, r :: rs => by
    rw [List.map_cons, List.mapIdx_cons]
    have e : (fun (i : Nat) (x : D) => D.tup [.int ((k + (i + 1) : Nat) : Int), x]) = fun i x => D.tup [.int ((k + 1 + i : Nat) : Int), x] := by
      funext i x
      rw [show k + (i + 1) = k + 1 + i by omega]
    show D.tup [.int ((k + 0 : Nat) : Int), intsD r] :: List.mapIdx (fun (i : Nat) (x : D) => D.tup [.int ((k + (i + 1) : Nat) : Int), x]) (rs.map intsD) = .tup [.int (k : Nat), intsD r] :: enumR (k + 1) rs
    rw [← enumR_eq (k + 1) rs, e]
    rfl
theorem enumD_rows (rs : List (List Int)) : enumD (rs.map intsD) = enumR 0 rs := by
  rw [← enumR_eq 0 rs]
  unfold enumD
  simp only [Nat.zero_add]
theorem pts_loop {pl : D} {μ : Store} : ∀ (rs : List (List Int)) (k : Nat) (fs : List D) (s2 s3 : Sl), (∀ r, r ∈ rs → r.length ≤ 1000) → fs.length + 1000 * rs.length ≤ 500000 → ∃ s2' s3',
    sForL (gT (gC (gN 2) (gC (gN 3) gE))) L_points_in_plan_2 (enumR k rs) [.fz pl, .fz (.lst fs), s2, s3, .no, .no] μ = .nx [.fz pl, .fz (.lst (fs ++ (ptsT k rs).map pt3)), s2', s3', .no, .no] μ
  | [], k, fs, s2, s3, _, _ => ⟨s2, s3, by simp [enumR, ptsT]⟩
  | r :: rs, k, fs, s2, s3, hr, hl => by
    simp only [List.length_cons] at hl
    have h1 := hr r (by simp)
    have h2 := rowPts_len k r
    obtain ⟨s2', s3', e⟩ := pts_loop (pl := pl) (μ := μ) rs (k + 1) (fs ++ (rowPts k r).map pt3) (.fz (.int (k : Nat))) (.fz (intsD r)) (fun x hx => hr x (List.mem_cons_of_mem _ hx)) (by simp; omega)
    refine ⟨s2', s3', ?_⟩
    show sForL _ _ (.tup [.int (k : Nat), intsD r] :: enumR (k + 1) rs) _ μ = _
    rw [forL_cons (ρ1 := [.fz pl, .fz (.lst fs), .fz (.int (k : Nat)), .fz (intsD r), .no, .no]) (ρ2 := [.fz pl, .fz (.lst (fs ++ (rowPts k r).map pt3)), .fz (.int (k : Nat)), .fz (intsD r), .no, .no]) (μ2 := μ) rfl ?_, e]
    · simp [ptsT]
    · have ha := addL_ok (xs := fs) (ys := (rowPts k r).map pt3) (by simp; omega)
      have hc := pts_c (pl := pl) (fs := fs) (k := k) (μ := μ) h1
      simp only [ev_asg, ev_bin, ev_var, List.getElem?_cons_succ, List.getElem?_cons_zero, slV_fz, ev_bind_ok, hc, ha, ev_ofO_some, ev_st_ok, List.set_cons_succ, List.set_cons_zero]
theorem endsT_row : ∀ (p : Plan) (a : List Int) (r : List Int), r ∈ endsT p a → r.length ≤ a.length + p.length
  | [], _, r, h => by cases h
  | (l, h) :: p, a, r, hr => by
    rcases List.mem_cons.mp (show r ∈ endL l h (stepH a) :: endsT p (openL l h (stepH a)) from hr) with e | hr
    · rw [e, endL_len, stepH_len, List.length_cons]; omega
    · have := endsT_row p _ r hr
      rw [openL_len, stepH_len] at this
      rw [List.length_cons]; omega
theorem points_spec {p : Plan} (hp : p.length ≤ 40) (μ : Store) : g_points_in_plan [planD p] μ = .ok (.lst ((ptsT 0 (endsT p [1])).map pt3)) μ := by
  have hl := layers_spec hp μ
  have hr : ∀ r, r ∈ endsT p [1] → r.length ≤ 1000 := fun r hr => by
    have := endsT_row p [1] r hr
    simp at this; omega
  obtain ⟨s2, s3, e⟩ := pts_loop (pl := planD p) (μ := μ) (endsT p [1]) 0 [] .no .no hr (by rw [endsT_len]; simp; omega)
  have hs : wEnumA (xIx (xCall g_layers_of_plan (lCons (xVar 0) lNil)) (xC (.int 1))) [.fz (planD p), .fz (.lst []), .no, .no, .no, .no] μ = .ok (enumR 0 (endsT p [1])) μ := by
    unfold wEnumA
    have i1 : ∀ x y : D, ixS μ (.tup [x, y]) (.int 1) = some y := fun _ _ => rfl
    simp [hl, i1, enumD_rows]
  unfold g_points_in_plan F_points_in_plan
  simp [hs, e]
/-! ### valid plans -/
theorem planD_pd (p : Plan) : D.pd 3 (planD p) = true := by
  show (p.map pairI).all (D.pd 2) = true
  rw [List.all_eq_true]
  intro x hx
  obtain ⟨y, _, rfl⟩ := List.mem_map.mp hx
  rfl
theorem okPair_pairI (x : Int × Int) : okPairB (pairI x) = true ↔ PairOk x := by
  show (decide (-1 ≤ x.1) && decide (x.1 ≤ 41) && decide (-1 ≤ x.2) && decide (x.2 ≤ 41) && decide (x.1 < x.2)) = true ↔ _
  simp only [Bool.and_eq_true, decide_eq_true_eq]
  unfold PairOk
  omega
theorem okPlan_iff (p : Plan) : okPlanB (planD p) = true ↔ PlanOk p := by
  have el : lastB (p.map pairI) = true ↔ p ≠ [] ∧ ∀ x, p.getLast? = some x → x.2 = x.1 + 1 := by
    unfold lastB
    rw [List.getLast?_map]
    cases e : p.getLast? with
    | none =>
      have : p = [] := List.getLast?_eq_none_iff.mp e
      simp [this]
    | some x =>
      have hne : p ≠ [] := fun z => by subst z; cases e
      show decide (x.2 = x.1 + 1) = true ↔ _
      rw [decide_eq_true_eq]
      exact ⟨fun h => ⟨hne, fun y hy => by cases hy; exact h⟩, fun h => h.2 x rfl⟩
  show (decide (1 ≤ (p.map pairI).length) && decide ((p.map pairI).length ≤ 40) && (p.map pairI).all okPairB && lastB (p.map pairI)) = true ↔ _
  rw [Bool.and_eq_true, Bool.and_eq_true, Bool.and_eq_true, decide_eq_true_eq, decide_eq_true_eq, el, List.length_map, List.all_map, List.all_eq_true]
  constructor
  · rintro ⟨⟨⟨h1, h2⟩, h3⟩, h4, h5⟩
    exact ⟨h1, h2, fun x hx => (okPair_pairI x).mp (h3 x hx), h5⟩
  · intro h
    exact ⟨⟨⟨h.pos, h.le⟩, fun x hx => (okPair_pairI x).mpr (h.ok x hx)⟩, fun e => by have := h.pos; subst e; simp at this, h.last⟩
theorem need_plan {p : Plan} (h : PlanOk p) (μ : Store) : g_need_end_plan [planD p] μ = .ok .non μ := by
  have hf := fits_spec (n := 1) (planD_pd p) μ
  rw [(okPlan_iff p).mpr h] at hf
  unfold g_need_end_plan F_need_end_plan
  simp [hf]
theorem end_points_spec {p : Plan} (h : PlanOk p) (μ : Store) : g_end_points [planD p] μ = .ok (.tup ((ptsT 0 (endsT p [1])).map pt3)) μ := by
  unfold g_end_points F_end_points
  simp [need_plan h, points_spec h.le, tupleD]
theorem open_counts_spec {p : Plan} (h : PlanOk p) {m : Nat} {a : List Int} (hm : ([1] :: opensT p [1])[m]? = some a) (μ : Store) : g_open_counts [planD p, .int (m : Nat)] μ = .ok (.tup (a.map D.int)) μ := by
  have hlt : m < p.length + 1 := by
    have := (List.getElem?_eq_some_iff.mp hm).1
    rw [List.length_cons, opensT_len] at this; exact this
  have hw := is_whole_spec (n := 1) (d := .int (m : Nat)) (lo := 0) (hi := (p.length : Nat)) rfl μ
  have hw' : wholeB 0 (p.length : Nat) (.int (m : Nat)) = true := by
    show (decide ((0 : Int) ≤ (m : Nat)) && decide (((m : Nat) : Int) ≤ (p.length : Nat))) = true
    rw [decide_eq_true (by omega), decide_eq_true (by omega)]; rfl
  rw [hw'] at hw
  have hn : g_need_whole [.int (m : Nat), .int 0, .int (p.length : Nat)] μ = .ok .non μ := by
    unfold g_need_whole F_need_whole
    simp [hw]
  have el : lenD [planD p] = some (.int (p.length : Nat)) := by
    show some (D.int ((p.map pairI).length : Nat)) = _
    rw [List.length_map]
  have i0 : ∀ x y : D, ixS μ (.tup [x, y]) (.int 0) = some x := fun _ _ => rfl
  have i1 : ixS μ (.lst (([1] :: opensT p [1]).map intsD)) (.int (m : Nat)) = some (intsD a) := by
    show L2.atI (([1] :: opensT p [1]).map intsD) (m : Nat) = _
    exact L2.atI_nat (by rw [List.getElem?_map, hm]; rfl)
  have hl := layers_spec h.le μ
  unfold g_open_counts F_open_counts
  simp only [List.map_cons] at i1 hl
  simp [need_plan h, el, hn, hl, i0, i1, intsD, tupleD]
  simp [intsD] at i1
  simp [i1, tupleD]
end K75
set_option Elab.async false
set_option linter.all false
set_option maxRecDepth 100000
set_option maxHeartbeats 2000000
namespace K75
open PySem DC
/-! ### a dict of ints -/
abbrev Asc := List (Int × Int)
def dkD (m : Asc) : D := .dk (m.map fun e => Sum.inl e.1) (m.map fun e => .int e.2)
def getA : Asc → Int → Option Int
  | [], _ => none
  | (k, v) :: m, j => if k = j then some v else getA m j
def putA (m : Asc) (j v : Int) : Asc := if j ∈ m.map Prod.fst then m.map (fun e => if e.1 = j then (e.1, v) else e) else m ++ [(j, v)]
theorem look_dk : ∀ (m : Asc) (j : Int), lookD (m.map fun e => (Sum.inl e.1 : L2.Key)) (m.map fun e => D.int e.2) (Sum.inl j) = (getA m j).map D.int
  | [], _ => rfl
  | (k, v) :: m, j => by
    show (if (Sum.inl k : L2.Key) = Sum.inl j then some (D.int v) else lookD (m.map fun e => (Sum.inl e.1 : L2.Key)) (m.map fun e => D.int e.2) (Sum.inl j)) = (if k = j then some v else getA m j).map D.int
    by_cases h : k = j
    · rw [if_pos (by rw [h]), if_pos h]; rfl
    · rw [if_neg (fun z => h (Sum.inl.inj z)), if_neg h, look_dk m j]
theorem putVs_dk : ∀ (m : Asc) (j v : Int), putVs (m.map fun e => (Sum.inl e.1 : L2.Key)) (m.map fun e => D.int e.2) (Sum.inl j) (.int v) = (m.map fun e => if e.1 = j then (e.1, v) else e).map fun e => D.int e.2
  | [], _, _ => rfl
  | (k, w) :: m, j, v => by
    show (if (Sum.inl k : L2.Key) = Sum.inl j then D.int v :: putVs (m.map fun e => (Sum.inl e.1 : L2.Key)) (m.map fun e => D.int e.2) (Sum.inl j) (.int v) else D.int w :: putVs (m.map fun e => (Sum.inl e.1 : L2.Key)) (m.map fun e => D.int e.2) (Sum.inl j) (.int v)) = D.int (if k = j then (k, v) else (k, w)).2 :: _
    rw [putVs_dk m j v]
    by_cases h : k = j
    · rw [if_pos (by rw [h]), if_pos h]
    · rw [if_neg (fun z => h (Sum.inl.inj z)), if_neg h]
theorem put_dk (m : Asc) (j v : Int) : D.dk (putD (m.map fun e => (Sum.inl e.1 : L2.Key)) (m.map fun e => D.int e.2) (Sum.inl j) (.int v)).1 (putD (m.map fun e => (Sum.inl e.1 : L2.Key)) (m.map fun e => D.int e.2) (Sum.inl j) (.int v)).2 = dkD (putA m j v) := by
  have hm : (Sum.inl j : L2.Key) ∈ (m.map fun e => (Sum.inl e.1 : L2.Key)) ↔ j ∈ m.map Prod.fst := by
    rw [List.mem_map, List.mem_map]
    constructor
    · rintro ⟨e, h1, h2⟩; exact ⟨e, h1, Sum.inl.inj h2⟩
    · rintro ⟨e, h1, h2⟩; exact ⟨e, h1, by rw [h2]⟩
  unfold putD putA dkD
  by_cases h : j ∈ m.map Prod.fst
  · rw [if_pos (hm.mpr h), if_pos h, putVs_dk]
    have : (m.map fun e => if e.1 = j then (e.1, v) else e).map (fun e => (Sum.inl e.1 : L2.Key)) = m.map fun e => (Sum.inl e.1 : L2.Key) := by
      rw [List.map_map]
      apply List.map_congr_left
      intro e _
      show (Sum.inl (if e.1 = j then (e.1, v) else e).1 : L2.Key) = Sum.inl e.1
      split <;> rfl
    rw [this]
  · rw [if_neg (fun z => h (hm.mp z)), if_neg h]
    simp
def addA (m : Asc) (k w : Int) : Asc := putA m k ((getA m k).getD 0 + w)
theorem putA_len (m : Asc) (j v : Int) : (putA m j v).length ≤ m.length + 1 := by
  unfold putA
  split
  · rw [List.length_map]; omega
  · simp
/-- x[k] = e on an own dict of ints -/
theorem ev_putK {ρ : DC.Env} {μ μ1 μ2 : Store} {i : Nat} {fk fe : XD} {m : Asc} {j v : Int} (h0 : ρ[i]? = some (.ow (dkD m))) (he : fe ρ μ = .ok (.int v) μ1) (hk : fk ρ μ1 = .ok (.int j) μ2) (hl : m.length ≤ 1000000) : sPutK i fk fe ρ μ = .nx (ρ.set i (.ow (dkD (putA m j v)))) μ2 := by
  unfold sPutK
  rw [he]
  simp only [ev_st_ok, h0, dkD]
  rw [hk]
  have e1 : D.key (.int j) = some (Sum.inl j) := rfl
  simp only [ev_st_ok, e1]
  have hl' : lenOk (m.map fun e => (Sum.inl e.1 : L2.Key)) = true := Nat.ble_eq.mpr (by rw [List.length_map]; exact hl)
  rw [if_pos hl', put_dk]
  rfl
theorem ev_get2 {m : Asc} {j x : Int} : get2K (dkD m) (.int j) (.int x) = some (.int ((getA m j).getD x)) := by
  show some ((lookD (m.map fun e => (Sum.inl e.1 : L2.Key)) (m.map fun e => D.int e.2) (Sum.inl j)).getD (.int x)) = _
  rw [look_dk]
  cases getA m j <;> rfl
theorem ev_getA {m : Asc} {j v : Int} (h : getA m j = some v) : getK (dkD m) (.int j) = some (.int v) := by
  show lookD (m.map fun e => (Sum.inl e.1 : L2.Key)) (m.map fun e => D.int e.2) (Sum.inl j) = _
  rw [look_dk, h]
  rfl
section
variable {pl : D} {hm m : Asc} {fd s3 s4 s5 : Sl} {u o w : Int} {μ : Store} {s8 : Sl}
theorem lp_1 (hu : getA hm u = some w) (hl : m.length ≤ 1000) : L__law_points_1 [pl |> .fz, .fz (dkD hm), fd, s3, s4, s5, .ow (dkD m), .fz (.int u), .fz (.int o)] μ = .nx [pl |> .fz, .fz (dkD hm), fd, s3, s4, s5, .ow (dkD (addA m o w)), .fz (.int u), .fz (.int o)] μ := by
  have e1 : xBor 6 (xGet2K (xVar 6) (xVar 8) (xC (.int 0))) [pl |> .fz, .fz (dkD hm), fd, s3, s4, s5, .ow (dkD m), .fz (.int u), .fz (.int o)] μ = .ok (.int ((getA m o).getD 0)) μ := by
    show ((xGet2K (xVar 6) (xVar 8) (xC (.int 0)) [pl |> .fz, .fz (dkD hm), fd, s3, s4, s5, .fz (dkD m), .fz (.int u), .fz (.int o)] μ).bind fun r μ' => if D.lf 8 r then .ok r μ' else .fail) = _
    have : xGet2K (xVar 6) (xVar 8) (xC (.int 0)) [pl |> .fz, .fz (dkD hm), fd, s3, s4, s5, .fz (dkD m), .fz (.int u), .fz (.int o)] μ = .ok (.int ((getA m o).getD 0)) μ := by
      show (Res.ofO (get2K (dkD m) (.int o) (.int 0)) μ : Res D) = _
      rw [ev_get2]; rfl
    rw [this]
    rfl
  have e2 : xBor 1 (xGetK (xVar 1) (xVar 7)) [pl |> .fz, .fz (dkD hm), fd, s3, s4, s5, .ow (dkD m), .fz (.int u), .fz (.int o)] μ = .ok (.int w) μ := by
    show (Res.ofO (getK (dkD hm) (.int u)) μ : Res D) = _
    rw [ev_getA hu]; rfl
  exact (ev_putK (m := m) (j := o) (v := (getA m o).getD 0 + w) (μ1 := μ) (μ2 := μ) rfl (by simp [e1, e2]) rfl (by omega)).trans rfl
theorem lp_2 (hu : getA hm u = some w) (hl : m.length ≤ 900) : L__law_points_2 [pl |> .fz, .fz (dkD hm), fd, s3, s4, s5, .ow (dkD m), .fz (.int u), s8] μ = .nx [pl |> .fz, .fz (dkD hm), fd, s3, s4, s5, .ow (dkD (addA (addA m u w) (u + 1) w)), .fz (.int u), .fz (.int (u + 1))] μ := by
  have h1 : (addA m u w).length ≤ 1000 := by
    have := putA_len m u ((getA m u).getD 0 + w)
    unfold addA; omega
  have e0 : iSeq (xTup (lCons (xVar 7) (lCons (xBin addD (xVar 7) (xC (.int 1))) lNil))) [pl |> .fz, .fz (dkD hm), fd, s3, s4, s5, .ow (dkD m), .fz (.int u), s8] μ = .ok [.int u, .int (u + 1)] μ := rfl
  show ((iSeq (xTup (lCons (xVar 7) (lCons (xBin addD (xVar 7) (xC (.int 1))) lNil))) [pl |> .fz, .fz (dkD hm), fd, s3, s4, s5, .ow (dkD m), .fz (.int u), s8] μ).st _ fun ds μ' => sForL (gN 8) L__law_points_1 ds [pl |> .fz, .fz (dkD hm), fd, s3, s4, s5, .ow (dkD m), .fz (.int u), s8] μ') = _
  rw [e0]
  simp only [ev_st_ok]
  rw [forL_cons (ρ1 := [pl |> .fz, .fz (dkD hm), fd, s3, s4, s5, .ow (dkD m), .fz (.int u), .fz (.int u)]) rfl (lp_1 hu (by omega)), forL_cons (ρ1 := [pl |> .fz, .fz (dkD hm), fd, s3, s4, s5, .ow (dkD (addA m u w)), .fz (.int u), .fz (.int (u + 1))]) rfl (lp_1 hu h1)]
  rfl
end
def addAll : Asc → Asc → Asc
  | m, [] => m
  | m, (u, w) :: r => addAll (addA (addA m u w) (u + 1) w) r
theorem addA_len (m : Asc) (k w : Int) : (addA m k w).length ≤ m.length + 1 := putA_len _ _ _
theorem lp_loop {pl : D} {hm : Asc} {fd s3 s4 s5 : Sl} {μ : Store} : ∀ (r m : Asc) (s7 s8 : Sl), (∀ e, e ∈ r → getA hm e.1 = some e.2) → m.length + 2 * r.length ≤ 800 → ∃ s7' s8',
    sForL (gN 7) L__law_points_2 (r.map fun e => .int e.1) [pl |> .fz, .fz (dkD hm), fd, s3, s4, s5, .ow (dkD m), s7, s8] μ = .nx [pl |> .fz, .fz (dkD hm), fd, s3, s4, s5, .ow (dkD (addAll m r)), s7', s8'] μ
  | [], m, s7, s8, _, _ => ⟨s7, s8, rfl⟩
  | (u, w) :: r, m, s7, s8, hr, hl => by
    simp only [List.length_cons] at hl
    have h1 := addA_len m u w
    have h2 := addA_len (addA m u w) (u + 1) w
    obtain ⟨s7', s8', e⟩ := lp_loop (pl := pl) (hm := hm) (fd := fd) (s3 := s3) (s4 := s4) (s5 := s5) (μ := μ) r (addA (addA m u w) (u + 1) w) (.fz (.int u)) (.fz (.int (u + 1))) (fun e he => hr e (List.mem_cons_of_mem _ he)) (by omega)
    refine ⟨s7', s8', ?_⟩
    rw [List.map_cons, forL_cons (ρ1 := [pl |> .fz, .fz (dkD hm), fd, s3, s4, s5, .ow (dkD m), .fz (.int u), s8]) rfl (lp_2 (hr (u, w) (by simp)) (by omega)), e]
    rfl
end K75
set_option Elab.async false
set_option linter.all false
set_option maxRecDepth 100000
set_option maxHeartbeats 2000000
namespace K75
open PySem DC
/-! ### a layer as a dict -/
def nz (a : List Int) : Asc := ((enumI a).filter fun e => decide (e.2 ≠ 0)).map fun e => ((e.1 : Int), e.2)
theorem enumI_snoc (a : List Int) (w : Int) : enumI (a ++ [w]) = enumI a ++ [(a.length, w)] := by
  unfold enumI
  rw [List.mapIdx_append]
  simp
theorem nz_snoc (a : List Int) (w : Int) : nz (a ++ [w]) = nz a ++ (if w = 0 then [] else [((a.length : Int), w)]) := by
  unfold nz
  rw [enumI_snoc, List.filter_append, List.map_append]
  congr 1
  by_cases h : w = 0
  · subst h; simp
  · simp [h]
theorem nz_nil : nz [] = [] := rfl
theorem nz_lt {a : List Int} {e : Int × Int} (h : e ∈ nz a) : 0 ≤ e.1 ∧ e.1 < a.length := by
  unfold nz at h
  obtain ⟨x, hx, rfl⟩ := List.mem_map.mp h
  obtain ⟨i, hi⟩ := List.getElem?_of_mem (List.mem_filter.mp hx).1
  unfold enumI at hi
  rw [List.getElem?_mapIdx] at hi
  cases e : a[i]? with
  | none => rw [e] at hi; cases hi
  | some w =>
    rw [e] at hi
    have := Option.some.inj hi
    subst this
    have := (List.getElem?_eq_some_iff.mp e).1
    show 0 ≤ ((i : Nat) : Int) ∧ ((i : Nat) : Int) < a.length
    omega
theorem nz_len (a : List Int) : (nz a).length ≤ a.length := by
  unfold nz
  rw [List.length_map]
  have := List.length_filter_le (fun e : Nat × Int => decide (e.2 ≠ 0)) (enumI a)
  rw [enumI_len] at this
  exact this
theorem getA_none {m : Asc} {j : Int} (h : ∀ e, e ∈ m → e.1 ≠ j) : getA m j = none := by
  induction m with
  | nil => rfl
  | cons e m ih =>
    obtain ⟨k, v⟩ := e
    show (if k = j then some v else getA m j) = none
    rw [if_neg (h (k, v) (by simp)), ih fun e he => h e (List.mem_cons_of_mem _ he)]
theorem getA_snoc {m : Asc} {j v : Int} (h : ∀ e, e ∈ m → e.1 ≠ j) : getA (m ++ [(j, v)]) j = some v := by
  induction m with
  | nil => exact if_pos rfl
  | cons e m ih =>
    obtain ⟨k, w⟩ := e
    show (if k = j then some w else getA (m ++ [(j, v)]) j) = some v
    rw [if_neg (h (k, w) (by simp)), ih fun e he => h e (List.mem_cons_of_mem _ he)]
theorem putA_new {m : Asc} {j v : Int} (h : ∀ e, e ∈ m → e.1 ≠ j) : putA m j v = m ++ [(j, v)] := by
  unfold putA
  rw [if_neg]
  intro z
  obtain ⟨e, h1, h2⟩ := List.mem_map.mp z
  exact h e h1 h2
theorem putA_last {m : Asc} {j v w : Int} (h : ∀ e, e ∈ m → e.1 ≠ j) : putA (m ++ [(j, v)]) j w = m ++ [(j, w)] := by
  unfold putA
  rw [if_pos (by simp)]
  rw [List.map_append]
  congr 1
  · have e : m.map (fun e => if e.1 = j then (e.1, w) else e) = m.map id := List.map_congr_left fun e he => if_neg (h e he)
    rw [e, List.map_id]
  · simp
theorem addA_new {m : Asc} {j w : Int} (h : ∀ e, e ∈ m → e.1 ≠ j) : addA m j w = m ++ [(j, w)] := by
  unfold addA
  rw [getA_none h, putA_new h]
  simp
theorem addA_last {m : Asc} {j v w : Int} (h : ∀ e, e ∈ m → e.1 ≠ j) : addA (m ++ [(j, v)]) j w = m ++ [(j, v + w)] := by
  unfold addA
  rw [getA_snoc h, putA_last h]
  simp
def stepZ (z : Int) (a : List Int) : List Int := List.zipWith (· + ·) (a ++ [0]) (z :: a)
theorem stepZ_snoc : ∀ (a : List Int) (z w : Int), ∃ c y, stepZ z a = c ++ [y] ∧ stepZ z (a ++ [w]) = c ++ [y + w, w] ∧ c.length = a.length
  | [], z, w => ⟨[], z, by simp [stepZ], by simp [stepZ]; omega, rfl⟩
  | x :: a, z, w => by
    obtain ⟨c, y, h1, h2, h3⟩ := stepZ_snoc a x w
    refine ⟨(x + z) :: c, y, ?_, ?_, by simp [h3]⟩
    · show (x + z) :: stepZ x a = _
      rw [h1]; rfl
    · show (x + z) :: stepZ x (a ++ [w]) = _
      rw [h2]; rfl
theorem stepH_Z (a : List Int) : stepH a = stepZ 0 a := rfl
def NN (a : List Int) : Prop := ∀ x, x ∈ a → 0 ≤ x
theorem stepZ_nn : ∀ (a : List Int) (z : Int), 0 ≤ z → NN a → NN (stepZ z a)
  | [], z, hz, _ => fun x hx => by
    simp [stepZ] at hx
    omega
  | y :: a, z, hz, ha => fun x hx => by
    rcases List.mem_cons.mp (show x ∈ (y + z) :: stepZ y a from hx) with e | hx
    · have := ha y (by simp); omega
    · exact stepZ_nn a y (ha y (by simp)) (fun x hx => ha x (List.mem_cons_of_mem _ hx)) x hx
theorem stepH_nn {a : List Int} (h : NN a) : NN (stepH a) := stepZ_nn a 0 (by omega) h
theorem openL_nn {l h : Int} {a : List Int} (hn : NN a) : NN (openL l h a) := fun x hx => by
  obtain ⟨i, hi⟩ := List.getElem?_of_mem hx
  unfold openL at hi
  rw [List.getElem?_mapIdx] at hi
  cases e : a[i]? with
  | none => rw [e] at hi; cases hi
  | some w =>
    rw [e] at hi
    have e2 : (if inB l h i then w else 0) = x := Option.some.inj hi
    have hw := hn w (List.mem_of_getElem? e)
    split at e2 <;> omega
theorem addAll_app : ∀ (r s m : Asc), addAll m (r ++ s) = addAll (addAll m r) s
  | [], _, _ => rfl
  | (u, w) :: r, s, m => addAll_app r s _
theorem snocInd {α : Type} {P : List α → Prop} (h0 : P []) (h1 : ∀ l x, P l → P (l ++ [x])) (l : List α) : P l := by
  have : ∀ n (l : List α), l.length = n → P l := by
    intro n
    induction n with
    | zero => intro l hl; rw [List.eq_nil_of_length_eq_zero hl]; exact h0
    | succ n ih =>
      intro l hl
      have hne : l ≠ [] := fun e => by subst e; cases hl
      rw [← List.dropLast_concat_getLast hne]
      exact h1 _ _ (ih _ (by rw [List.length_dropLast, hl]; rfl))
  exact this _ l rfl
theorem addAll_nz (a : List Int) : NN a → (addAll [] (nz a) = nz (stepH a)) := by
  induction a using snocInd with
  | h0 => intro _; rfl
  | h1 a w ih =>
    intro hn
    have ha : NN a := fun x hx => hn x (List.mem_append_left _ hx)
    have hw : 0 ≤ w := hn w (by simp)
    obtain ⟨c, y, h1, h2, h3⟩ := stepZ_snoc a 0 w
    have hy : 0 ≤ y := stepH_nn ha y (by rw [stepH_Z, h1]; simp)
    have ec : nz (c ++ [y + w, w]) = nz c ++ (if y + w = 0 then [] else [((c.length : Int), y + w)]) ++ (if w = 0 then [] else [(((c.length + 1 : Nat) : Int), w)]) := by
      have e : c ++ [y + w, w] = (c ++ [y + w]) ++ [w] := by simp
      rw [e, nz_snoc, nz_snoc]
      simp
    rw [nz_snoc, addAll_app, ih ha, stepH_Z, stepH_Z, h1, h2, ec, nz_snoc]
    have hc : ∀ e, e ∈ nz c → e.1 ≠ (c.length : Int) := fun e he => by have := nz_lt he; omega
    by_cases h0 : w = 0
    · subst h0
      simp [addAll]
    · rw [if_neg h0, if_neg h0, if_neg (show ¬ y + w = 0 by omega)]
      show addA (addA _ (a.length : Int) w) ((a.length : Int) + 1) w = _
      rw [← h3]
      by_cases hy0 : y = 0
      · subst hy0
        rw [if_pos rfl, List.append_nil, addA_new hc, addA_new]
        · simp
        · intro e he
          rcases List.mem_append.mp he with he | he
          · have := nz_lt he; omega
          · rw [List.mem_singleton.mp he]; simp only; omega
      · rw [if_neg hy0, addA_last hc, addA_new]
        · simp
        · intro e he
          rcases List.mem_append.mp he with he | he
          · have := nz_lt he; omega
          · rw [List.mem_singleton.mp he]; simp only; omega
theorem nz_get (a : List Int) : ∀ e, e ∈ nz a → getA (nz a) e.1 = some e.2 := by
  induction a using snocInd with
  | h0 => intro e he; cases he
  | h1 a w ih =>
    intro e he
    rw [nz_snoc] at he ⊢
    by_cases h0 : w = 0
    · subst h0
      simp only [if_true, List.append_nil] at he ⊢
      exact ih e he
    · rw [if_neg h0] at he ⊢
      have hc : ∀ e, e ∈ nz a → e.1 ≠ (a.length : Int) := fun e he => by have := nz_lt he; omega
      rcases List.mem_append.mp he with he | he
      · have : ∀ (m : Asc) (j v : Int) (p : Int × Int), getA m j = some v → getA (m ++ [p]) j = some v := by
          intro m
          induction m with
          | nil => intro j v p h; cases h
          | cons x m ih =>
            intro j v p h
            obtain ⟨k, w⟩ := x
            have h' : (if k = j then some w else getA m j) = some v := h
            show (if k = j then some w else getA (m ++ [p]) j) = some v
            split at h'
            · rename_i hk; rw [if_pos hk]; exact h'
            · rename_i hk; rw [if_neg hk]; exact ih j v p h'
        exact this _ _ _ _ (ih e he)
      · rw [List.mem_singleton.mp he]
        exact getA_snoc hc
theorem nz_asc (a : List Int) : ((nz a).map Prod.fst).Pairwise (· < ·) := by
  induction a using snocInd with
  | h0 => exact List.Pairwise.nil
  | h1 a w ih =>
    rw [nz_snoc, List.map_append, List.pairwise_append]
    refine ⟨ih, ?_, fun x hx y hy => ?_⟩
    · split
      · exact List.Pairwise.nil
      · exact List.pairwise_singleton _ _
    · obtain ⟨e, he, rfl⟩ := List.mem_map.mp hx
      split at hy
      · cases hy
      · have : y = (a.length : Int) := by simpa using hy
        rw [this]
        exact (nz_lt he).2
/-! ### cut by the bounds -/
def inA (l h : Int) (e : Int × Int) : Bool := decide (l < e.1) && decide (e.1 < h)
theorem nz_open (l h : Int) (a : List Int) : nz (openL l h a) = (nz a).filter (inA l h) := by
  induction a using snocInd with
  | h0 => rfl
  | h1 a w ih =>
    have e : openL l h (a ++ [w]) = openL l h a ++ [if inB l h a.length then w else 0] := by
      unfold openL
      rw [List.mapIdx_append]
      simp
    rw [e, nz_snoc, nz_snoc, ih, List.filter_append, openL_len]
    congr 1
    by_cases h0 : w = 0
    · subst h0; simp
    · by_cases hb : inB l h a.length = true
      · have : inA l h ((a.length : Int), w) = true := hb
        simp [h0, hb, this]
      · have hb' : inB l h a.length = false := by cases e : inB l h a.length with | true => exact absurd e hb | false => rfl
        have : inA l h ((a.length : Int), w) = false := hb'
        simp [h0, hb', this]
theorem pts_end (k : Nat) (l h : Int) (a : List Int) (hn : NN a) : rowPts k (endL l h a) = ((nz a).filter fun e => !inA l h e).map fun e => ((k : Int) + 1, e.1, e.2) := by
  induction a using snocInd with
  | h0 => rfl
  | h1 a w ih =>
    have e : endL l h (a ++ [w]) = endL l h a ++ [if inB l h a.length then 0 else w] := by
      unfold endL
      rw [List.mapIdx_append]
      simp
    have hw : 0 ≤ w := hn w (by simp)
    have e2 : ∀ x, rowPts k (endL l h a ++ [x]) = rowPts k (endL l h a) ++ (if 0 < x then [((k : Int) + 1, (a.length : Int), x)] else []) := by
      intro x
      unfold rowPts
      rw [enumI_snoc, List.filter_append, List.map_append, endL_len]
      congr 1
      by_cases hx : 0 < x <;> simp [hx]
    rw [e, e2, ih fun x hx => hn x (List.mem_append_left _ hx), nz_snoc, List.filter_append, List.map_append]
    congr 1
    by_cases h0 : w = 0
    · subst h0; simp
    · have hp : 0 < w := by omega
      by_cases hb : inB l h a.length = true
      · have : inA l h ((a.length : Int), w) = true := hb
        simp [h0, hb, this]
      · have hb' : inB l h a.length = false := by cases e : inB l h a.length with | true => exact absurd e hb | false => rfl
        have : inA l h ((a.length : Int), w) = false := hb'
        simp [h0, hb', this, hp]
end K75
set_option Elab.async false
set_option linter.all false
set_option maxRecDepth 100000
set_option maxHeartbeats 2000000
namespace K75
open PySem DC
/-! ### _law_points -/
theorem keyInts_map : ∀ m : Asc, keyInts (m.map fun e => (Sum.inl e.1 : L2.Key)) = some (m.map Prod.fst)
  | [] => rfl
  | e :: m => by
    show (keyInts (m.map fun e => (Sum.inl e.1 : L2.Key))).map (e.1 :: ·) = _
    rw [keyInts_map m]
    rfl
theorem sort_asc {l : List Int} (h : l.Pairwise (· < ·)) : DC.sortI l = l :=
  sorted_uniq (sortI_perm l) (sortI_sorted l) (h.imp fun h => Int.le_of_lt h)
theorem sorted_dk {m : Asc} (h : (m.map Prod.fst).Pairwise (· < ·)) (hl : m.length < 64) : sortedA [dkD m] = some (.lst (m.map fun e => .int e.1)) := by
  show (keyInts (m.map fun e => (Sum.inl e.1 : L2.Key))).bind (fun ns => if Nat.blt ns.length 64 then some (D.lst ((DC.sortI ns).map D.int)) else none) = _
  rw [keyInts_map]
  show (if Nat.blt (m.map Prod.fst).length 64 = true then some (D.lst ((DC.sortI (m.map Prod.fst)).map D.int)) else none) = _
  have hb : Nat.blt (m.map Prod.fst).length 64 = true := Nat.ble_eq.mpr (show (m.map Prod.fst).length + 1 ≤ 64 by rw [List.length_map]; exact hl)
  rw [if_pos hb, sort_asc h, List.map_map]
  rfl
section
variable {pl : D} {hm m : Asc} {fs : List D} {k l h : Int} {μ : Store} {s7 : Sl} {o w : Int}
theorem lp3_get (ho : getA m o = some w) {s1 s2 : Sl} : xBor 6 (xGetK (xVar 6) (xVar 8)) [.fz pl, s1, s2, .fz (.int k), .fz (.int l), .fz (.int h), .fz (dkD m), s7, .fz (.int o)] μ = .ok (.int w) μ := by
  show (Res.ofO (getK (dkD m) (.int o)) μ : Res D) = _
  rw [ev_getA ho]; rfl
theorem lp3_in (ho : getA m o = some w) (hi : inA l h (o, w) = true) (hn : ∀ e, e ∈ hm → e.1 ≠ o) (hl : hm.length ≤ 1000) :
    L__law_points_3 [.fz pl, .ow (dkD hm), .ow (.lst fs), .fz (.int k), .fz (.int l), .fz (.int h), .fz (dkD m), s7, .fz (.int o)] μ =
    .nx [.fz pl, .ow (dkD (hm ++ [(o, w)])), .ow (.lst fs), .fz (.int k), .fz (.int l), .fz (.int h), .fz (dkD m), s7, .fz (.int o)] μ := by
  have h1 : l < o := by unfold inA at hi; simp at hi; exact hi.1
  have h2 : o < h := by unfold inA at hi; simp at hi; exact hi.2
  have e := ev_putK (ρ := [.fz pl, .ow (dkD hm), .ow (.lst fs), .fz (.int k), .fz (.int l), .fz (.int h), .fz (dkD m), s7, .fz (.int o)]) (μ := μ) (i := 1) (fk := xVar 8) (fe := xBor 6 (xGetK (xVar 6) (xVar 8))) (m := hm) (j := o) (v := w) (μ1 := μ) (μ2 := μ) rfl (lp3_get ho) rfl (by omega)
  rw [putA_new hn] at e
  simp [h1, h2, e]
theorem lp3_out (ho : getA m o = some w) (hi : inA l h (o, w) = false) (hl : fs.length ≤ 1000000) :
    L__law_points_3 [.fz pl, .ow (dkD hm), .ow (.lst fs), .fz (.int k), .fz (.int l), .fz (.int h), .fz (dkD m), s7, .fz (.int o)] μ =
    .nx [.fz pl, .ow (dkD hm), .ow (.lst (fs ++ [pt3 (k + 1, o, w)])), .fz (.int k), .fz (.int l), .fz (.int h), .fz (dkD m), s7, .fz (.int o)] μ := by
  have e := ev_app (ρ := [.fz pl, .ow (dkD hm), .ow (.lst fs), .fz (.int k), .fz (.int l), .fz (.int h), .fz (dkD m), s7, .fz (.int o)]) (μ := μ) (i := 2) (f := xTup (lCons (xBin addD (xVar 3) (xC (.int 1))) (lCons (xVar 8) (lCons (xBor 6 (xGetK (xVar 6) (xVar 8))) lNil)))) (ds := fs) (d := pt3 (k + 1, o, w)) (μ' := μ) rfl (by simp [lp3_get ho, pt3]) hl
  by_cases h1 : l < o
  · have h2 : ¬ o < h := by unfold inA at hi; simp [h1] at hi; omega
    simp [h1, h2, e]
  · simp [h1, e]
end
theorem lp3_loop {pl : D} {m : Asc} {k l h : Int} {μ : Store} {s7 : Sl} : ∀ (r hm : Asc) (fs : List D) (s8 : Sl), (∀ e, e ∈ r → getA m e.1 = some e.2) → (hm.map Prod.fst ++ r.map Prod.fst).Pairwise (· < ·) → hm.length + r.length ≤ 900 → fs.length + r.length ≤ 900000 → ∃ s8',
    sForL (gN 8) L__law_points_3 (r.map fun e => .int e.1) [.fz pl, .ow (dkD hm), .ow (.lst fs), .fz (.int k), .fz (.int l), .fz (.int h), .fz (dkD m), s7, s8] μ =
    .nx [.fz pl, .ow (dkD (hm ++ r.filter (inA l h))), .ow (.lst (fs ++ ((r.filter fun e => !inA l h e).map fun e => pt3 (k + 1, e.1, e.2)))), .fz (.int k), .fz (.int l), .fz (.int h), .fz (dkD m), s7, s8'] μ
  | [], hm, fs, s8, _, _, _, _ => ⟨s8, by simp⟩
  | (o, w) :: r, hm, fs, s8, hr, ha, h1, h2 => by
    simp only [List.length_cons] at h1 h2
    have ho := hr (o, w) (by simp)
    have hr' : ∀ e, e ∈ r → getA m e.1 = some e.2 := fun e he => hr e (List.mem_cons_of_mem _ he)
    cases hi : inA l h (o, w) with
    | true =>
      have hn : ∀ e, e ∈ hm → e.1 ≠ o := fun e he => by
        have := (List.pairwise_append.mp ha).2.2 e.1 (List.mem_map.mpr ⟨e, he, rfl⟩) o (by simp)
        omega
      obtain ⟨s8', e⟩ := lp3_loop (pl := pl) (m := m) (k := k) (l := l) (h := h) (μ := μ) (s7 := s7) r (hm ++ [(o, w)]) fs (.fz (.int o)) hr' (by simpa using ha) (by simp; omega) (by omega)
      refine ⟨s8', ?_⟩
      rw [List.map_cons, forL_cons (ρ1 := [.fz pl, .ow (dkD hm), .ow (.lst fs), .fz (.int k), .fz (.int l), .fz (.int h), .fz (dkD m), s7, .fz (.int o)]) rfl (lp3_in ho hi hn (by omega)), e]
      simp [hi]
    | false =>
      obtain ⟨s8', e⟩ := lp3_loop (pl := pl) (m := m) (k := k) (l := l) (h := h) (μ := μ) (s7 := s7) r hm (fs ++ [pt3 (k + 1, o, w)]) (.fz (.int o)) hr' (by
        have := List.pairwise_append.mp ha
        refine List.pairwise_append.mpr ⟨this.1, (List.pairwise_cons.mp this.2.1).2, fun x hx y hy => this.2.2 x hx y (List.mem_cons_of_mem _ hy)⟩) (by omega) (by simp; omega)
      refine ⟨s8', ?_⟩
      rw [List.map_cons, forL_cons (ρ1 := [.fz pl, .ow (dkD hm), .ow (.lst fs), .fz (.int k), .fz (.int l), .fz (.int h), .fz (dkD m), s7, .fz (.int o)]) rfl (lp3_out ho hi (by omega)), e]
      simp [hi]
theorem keyOk_dk (m : Asc) : (m.map fun e => (Sum.inl e.1 : L2.Key)).all keyOk = true := by
  rw [List.all_eq_true]
  intro x hx
  obtain ⟨e, _, rfl⟩ := List.mem_map.mp hx
  rfl
theorem ev_forK {ρ : DC.Env} {μ : Store} {i : Nat} {g : Tg} {F : SD} {m : Asc} (h : ρ[i]? = some (.ow (dkD m))) : sForK i g F ρ μ = sForL g F (m.map fun e => .int e.1) (ρ.set i (.fz (dkD m))) μ := by
  unfold sForK
  rw [h]
  show (if (m.map fun e => (Sum.inl e.1 : L2.Key)).all keyOk = true then sForL g F ((m.map fun e => (Sum.inl e.1 : L2.Key)).map keyD) (ρ.set i (.fz (dkD m))) μ else .fail) = _
  rw [if_pos (keyOk_dk m), List.map_map]
  rfl
theorem lp4 {pl : D} {a : List Int} {fs : List D} {k : Nat} {l h : Int} {s6 s7 s8 : Sl} {μ : Store} (hn : NN a) (ha : a.length ≤ 60) (hf : fs.length ≤ 800000) : ∃ s6' s7' s8',
    L__law_points_4 [.fz pl, .ow (dkD (nz a)), .ow (.lst fs), .fz (.int (k : Nat)), .fz (.int l), .fz (.int h), s6, s7, s8] μ =
    .nx [.fz pl, .ow (dkD (nz (openL l h (stepH a)))), .ow (.lst (fs ++ (rowPts k (endL l h (stepH a))).map pt3)), .fz (.int (k : Nat)), .fz (.int l), .fz (.int h), s6', s7', s8'] μ := by
  have la := nz_len a
  have lb := nz_len (stepH a)
  rw [stepH_len] at lb
  obtain ⟨s7', s8', e1⟩ := lp_loop (pl := pl) (hm := nz a) (fd := .ow (.lst fs)) (s3 := .fz (.int (k : Nat))) (s4 := .fz (.int l)) (s5 := .fz (.int h)) (μ := μ) (nz a) [] s7 s8 (nz_get a) (by simp; omega)
  rw [addAll_nz a hn] at e1
  obtain ⟨s8'', e2⟩ := lp3_loop (pl := pl) (m := nz (stepH a)) (k := (k : Nat)) (l := l) (h := h) (μ := μ) (s7 := s7') (nz (stepH a)) [] fs s8' (nz_get _) (by simpa using nz_asc (stepH a)) (by simp; omega) (by omega)
  rw [List.nil_append, ← nz_open] at e2
  have ep : ((nz (stepH a)).filter fun e => !inA l h e).map (fun e => pt3 ((k : Int) + 1, e.1, e.2)) = (rowPts k (endL l h (stepH a))).map pt3 := by
    rw [pts_end k l h _ (stepH_nn hn), List.map_map]
    rfl
  rw [ep] at e2
  refine ⟨.fz (dkD (nz (stepH a))), s7', s8'', ?_⟩
  have ek := ev_forK (ρ := [.fz pl, .ow (dkD (nz a)), .ow (.lst fs), .fz (.int (k : Nat)), .fz (.int l), .fz (.int h), .ow (dkD []), s7, s8]) (μ := μ) (i := 1) (g := gN 7) (F := L__law_points_2) (m := nz a) rfl
  have e1' : sForL (gN 7) L__law_points_2 ((nz a).map fun e => .int e.1) [.fz pl, .fz (dkD (nz a)), .ow (.lst fs), .fz (.int (k : Nat)), .fz (.int l), .fz (.int h), .ow (dkD []), s7, s8] μ = .nx [.fz pl, .fz (dkD (nz a)), .ow (.lst fs), .fz (.int (k : Nat)), .fz (.int l), .fz (.int h), .ow (dkD (nz (stepH a))), s7', s8'] μ := e1
  have hk : xNewK = fun _ μ => Res.ok (dkD []) μ := rfl
  have hsrt := sorted_dk (nz_asc (stepH a)) (by omega)
  simp only [ev_seq, ev_asgF, hk, ev_st_ok, List.set_cons_succ, List.set_cons_zero, seq_nx]
  rw [ek]
  simp only [List.set_cons_succ, List.set_cons_zero]
  rw [e1']
  simp only [seq_nx, ev_seq, ev_asgF, ev_st_ok, List.set_cons_succ, List.set_cons_zero, ev_frz]
  have hf6 : frzE [.fz pl, .ow (dkD []), .ow (.lst fs), .fz (.int (k : Nat)), .fz (.int l), .fz (.int h), .ow (dkD (nz (stepH a))), s7', s8'] 6 = [.fz pl, .ow (dkD []), .ow (.lst fs), .fz (.int (k : Nat)), .fz (.int l), .fz (.int h), .fz (dkD (nz (stepH a))), s7', s8'] := rfl
  rw [hf6]
  simp only [ev_for, ev_seq_src, ev_cb, ev_lCons, ev_lNil, ev_var, List.getElem?_cons_succ, List.getElem?_cons_zero, slV_fz, ev_bind_ok, hsrt, ev_ofO_some, ev_iSeqD_lst, ev_st_ok]
  exact e2
def enumP : Nat → Plan → List D
  | _, [] => []
  | k, e :: p => .tup [.int (k : Nat), pairI e] :: enumP (k + 1) p
theorem enumP_eq : ∀ (k : Nat) (p : Plan), (p.map pairI).mapIdx (fun i x => D.tup [.int ((k + i : Nat) : Int), x]) = enumP k p
  | _, [] => rfl
  | k, r :: rs => by
    rw [List.map_cons, List.mapIdx_cons]
    have e : (fun (i : Nat) (x : D) => D.tup [.int ((k + (i + 1) : Nat) : Int), x]) = fun i x => D.tup [.int ((k + 1 + i : Nat) : Int), x] := by
      funext i x
      rw [show k + (i + 1) = k + 1 + i by omega]
    show D.tup [.int ((k + 0 : Nat) : Int), pairI r] :: List.mapIdx (fun (i : Nat) (x : D) => D.tup [.int ((k + (i + 1) : Nat) : Int), x]) (rs.map pairI) = .tup [.int (k : Nat), pairI r] :: enumP (k + 1) rs
    rw [← enumP_eq (k + 1) rs, e]
    rfl
theorem lp_all {pl : D} {μ : Store} : ∀ (p : Plan) (k : Nat) (a : List Int) (fs : List D) (s3 s4 s5 s6 s7 s8 : Sl), NN a → a.length + p.length ≤ 50 → fs.length + 100 * p.length ≤ 10000 → ∃ d1 s3' s4' s5' s6' s7' s8',
    sForL (gT (gC (gN 3) (gC (gT (gC (gN 4) (gC (gN 5) gE))) gE))) L__law_points_4 (enumP k p) [.fz pl, .ow (dkD (nz a)), .ow (.lst fs), s3, s4, s5, s6, s7, s8] μ =
    .nx [.fz pl, d1, .ow (.lst (fs ++ (ptsT k (endsT p a)).map pt3)), s3', s4', s5', s6', s7', s8'] μ
  | [], k, a, fs, s3, s4, s5, s6, s7, s8, _, _, _ => ⟨_, s3, s4, s5, s6, s7, s8, by simp [enumP, endsT, ptsT]; rfl⟩
  | (l, h) :: p, k, a, fs, s3, s4, s5, s6, s7, s8, hn, h1, h2 => by
    simp only [List.length_cons] at h1 h2
    obtain ⟨s6', s7', s8', e⟩ := lp4 (pl := pl) (a := a) (fs := fs) (k := k) (l := l) (h := h) (s6 := s6) (s7 := s7) (s8 := s8) (μ := μ) hn (by omega) (by omega)
    have hl := rowPts_len k (endL l h (stepH a))
    rw [endL_len, stepH_len] at hl
    obtain ⟨d1, t3, t4, t5, t6, t7, t8, e2⟩ := lp_all (pl := pl) (μ := μ) p (k + 1) (openL l h (stepH a)) (fs ++ (rowPts k (endL l h (stepH a))).map pt3) (.fz (.int (k : Nat))) (.fz (.int l)) (.fz (.int h)) s6' s7' s8' (openL_nn (stepH_nn hn)) (by rw [openL_len, stepH_len]; omega) (by simp; omega)
    refine ⟨d1, t3, t4, t5, t6, t7, t8, ?_⟩
    show sForL _ _ (.tup [.int (k : Nat), pairI (l, h)] :: enumP (k + 1) p) _ μ = _
    rw [forL_cons (ρ1 := [.fz pl, .ow (dkD (nz a)), .ow (.lst fs), .fz (.int (k : Nat)), .fz (.int l), .fz (.int h), s6, s7, s8]) rfl e, e2]
    simp [endsT, ptsT]
theorem law_points_spec {p : Plan} (hp : p.length ≤ 40) (μ : Store) : g__law_points [planD p] μ = .ok (.lst ((ptsT 0 (endsT p [1])).map pt3)) μ := by
  obtain ⟨d1, t3, t4, t5, t6, t7, t8, e⟩ := lp_all (pl := planD p) (μ := μ) p 0 [1] [] .no .no .no .no .no .no (fun x hx => by simp at hx; omega) (by simp; omega) (by simp; omega)
  have h1 : nz [1] = [(0, 1)] := by decide
  rw [h1] at e
  have hd : (D.dk [.inl 0] [.int 1]) = dkD [(0, 1)] := rfl
  have hs : wEnumA (xVar 0) [.fz (planD p), .ow (dkD [(0, 1)]), .ow (.lst []), .no, .no, .no, .no, .no, .no] μ = .ok (enumP 0 p) μ := by
    show Res.ok (enumD (p.map pairI)) μ = _
    rw [← enumP_eq 0 p]
    unfold enumD
    simp only [Nat.zero_add]
  unfold g__law_points F__law_points
  have hx : xDisp1 (.inl 0) (.int 1) = fun _ μ => Res.ok (dkD [(0, 1)]) μ := rfl
  simp [hx, hs, e, frzE]
end K75
set_option Elab.async false
set_option linter.all false
set_option maxRecDepth 100000
set_option maxHeartbeats 2000000
namespace K75
open PySem DC
/-! ### where a row ends -/
def bI (b : Bool) : Int := if b then 1 else 0
def endG : Plan → Nat → Int → List Bool → Option (Nat × Bool)
  | _, _, _, [] => none
  | [], _, _, _ :: _ => none
  | (l, h) :: p, k, u, b :: bs => if u + bI b ≤ l then some (k + 1, true) else if h ≤ u + bI b then some (k + 1, false) else endG p (k + 1) (u + bI b) bs
def endD : Option (Nat × Bool) → D
  | none => .non
  | some (k, dn) => .tup [.int (k : Nat), .str (if dn then "down" else "up")]
def enumB : Nat → List Bool → List D
  | _, [] => []
  | k, b :: bs => .tup [.int (k : Nat), .str (rowS [b])] :: enumB (k + 1) bs
theorem enumB_eq : ∀ (k : Nat) (bs : List Bool), (bs.map fun b => D.str (rowS [b])).mapIdx (fun i x => D.tup [.int ((k + i : Nat) : Int), x]) = enumB k bs
  | _, [] => rfl
  | k, b :: bs => by
    rw [List.map_cons, List.mapIdx_cons]
    have e : (fun (i : Nat) (x : D) => D.tup [.int ((k + (i + 1) : Nat) : Int), x]) = fun i x => D.tup [.int ((k + 1 + i : Nat) : Int), x] := by
      funext i x
      rw [show k + (i + 1) = k + 1 + i by omega]
    show D.tup [.int ((k + 0 : Nat) : Int), .str (rowS [b])] :: List.mapIdx (fun (i : Nat) (x : D) => D.tup [.int ((k + (i + 1) : Nat) : Int), x]) (bs.map fun b => D.str (rowS [b])) = _ :: enumB (k + 1) bs
    rw [← enumB_eq (k + 1) bs, e]
    rfl
@[simp] theorem ev_addB (i : Int) (b : Bool) : addD (.int i) (.bl b) = some (.int (i + bI b)) := rfl
theorem ix_plan {P : Plan} {k : Nat} {x : Int × Int} (h : P[k]? = some x) (μ : Store) : ixS μ (planD P) (.int (k : Nat)) = some (pairI x) := by
  show L2.atI (P.map pairI) (k : Nat) = _
  exact L2.atI_nat (by rw [List.getElem?_map, h]; rfl)
theorem ix_pair0 (x : Int × Int) (μ : Store) : ixS μ (pairI x) (.int 0) = some (.int x.1) := rfl
theorem ix_pair1 (x : Int × Int) (μ : Store) : ixS μ (pairI x) (.int 1) = some (.int x.2) := rfl
theorem drop_cons {α : Type} {P : List α} {k : Nat} (h : k < P.length) : ∃ x, P[k]? = some x ∧ P.drop k = x :: P.drop (k + 1) := ⟨P[k], List.getElem?_eq_getElem h, List.drop_eq_getElem_cons h⟩
theorem eo_step {P : Plan} {row : D} {u : Int} {k : Nat} {b : Bool} {l h : Int} {μ : Store} (hx : P[k]? = some (l, h)) :
    L_end_of_1 [.fz (planD P), .fz row, .fz (.int u), .fz (.int (k : Nat)), .fz (.str (rowS [b]))] μ =
    if u + bI b ≤ l then .rt (endD (some (k + 1, true))) μ else if h ≤ u + bI b then .rt (endD (some (k + 1, false))) μ else .nx [.fz (planD P), .fz row, .fz (.int (u + bI b)), .fz (.int (k : Nat)), .fz (.str (rowS [b]))] μ := by
  have e0 := ix_plan hx μ
  by_cases h1 : u + bI b ≤ l
  · simp [-ev_eqSS, eq_u, e0, ix_pair0, ix_pair1, h1, endD]
  · by_cases h2 : h ≤ u + bI b
    · simp [-ev_eqSS, eq_u, e0, ix_pair0, ix_pair1, h1, h2, endD]
    · simp [-ev_eqSS, eq_u, e0, ix_pair0, ix_pair1, h1, h2]
theorem eo_loop {P : Plan} {row : D} {μ : Store} : ∀ (bs : List Bool) (k : Nat) (u : Int) (s3 s4 : Sl), bs.length + k ≤ P.length →
    match endG (P.drop k) k u bs with
    | none => ∃ ρ', sForL (gT (gC (gN 3) (gC (gN 4) gE))) L_end_of_1 (enumB k bs) [.fz (planD P), .fz row, .fz (.int u), s3, s4] μ = .nx ρ' μ
    | some e => sForL (gT (gC (gN 3) (gC (gN 4) gE))) L_end_of_1 (enumB k bs) [.fz (planD P), .fz row, .fz (.int u), s3, s4] μ = .rt (endD (some e)) μ
  | [], k, u, s3, s4, _ => by
    simp only [endG]
    exact ⟨_, rfl⟩
  | b :: bs, k, u, s3, s4, hl => by
    simp only [List.length_cons] at hl
    obtain ⟨⟨l, h⟩, hx, hd⟩ := drop_cons (P := P) (k := k) (by omega)
    have es := eo_step (P := P) (row := row) (u := u) (k := k) (b := b) (μ := μ) hx
    rw [hd]
    simp only [endG]
    show match (if u + bI b ≤ l then some (k + 1, true) else if h ≤ u + bI b then some (k + 1, false) else endG (P.drop (k + 1)) (k + 1) (u + bI b) bs) with
    | none => ∃ ρ', sForL _ _ (.tup [.int (k : Nat), .str (rowS [b])] :: enumB (k + 1) bs) _ μ = .nx ρ' μ
    | some e => sForL _ _ (.tup [.int (k : Nat), .str (rowS [b])] :: enumB (k + 1) bs) _ μ = .rt (endD (some e)) μ
    by_cases h1 : u + bI b ≤ l
    · rw [if_pos h1] at es ⊢
      exact forL_rt (ρ1 := [.fz (planD P), .fz row, .fz (.int u), .fz (.int (k : Nat)), .fz (.str (rowS [b]))]) rfl es
    · by_cases h2 : h ≤ u + bI b
      · rw [if_neg h1, if_pos h2] at es ⊢
        exact forL_rt (ρ1 := [.fz (planD P), .fz row, .fz (.int u), .fz (.int (k : Nat)), .fz (.str (rowS [b]))]) rfl es
      · rw [if_neg h1, if_neg h2] at es ⊢
        have ih := eo_loop (P := P) (row := row) (μ := μ) bs (k + 1) (u + bI b) (.fz (.int (k : Nat))) (.fz (.str (rowS [b]))) (by omega)
        rw [forL_cons (ρ1 := [.fz (planD P), .fz row, .fz (.int u), .fz (.int (k : Nat)), .fz (.str (rowS [b]))]) rfl es]
        exact ih
theorem end_of_spec {P : Plan} {bs : List Bool} (hl : bs.length ≤ P.length) (μ : Store) : g_end_of [planD P, .str (rowS bs)] μ = .ok (endD (endG P 0 0 bs)) μ := by
  have hs : wEnumA (xVar 1) [.fz (planD P), .fz (.str (rowS bs)), .fz (.int 0), .no, .no] μ = .ok (enumB 0 bs) μ := by
    show Res.ok (enumD (strD (rowS bs))) μ = _
    rw [strD_row, ← enumB_eq 0 bs]
    unfold enumD
    simp only [Nat.zero_add]
  have h := eo_loop (P := P) (row := .str (rowS bs)) (μ := μ) bs 0 0 .no .no (by omega)
  rw [List.drop_zero] at h
  unfold g_end_of F_end_of
  cases e : endG P 0 0 bs with
  | none =>
    rw [e] at h
    obtain ⟨ρ', h⟩ := h
    simp [hs, h, endD]
  | some x =>
    rw [e] at h
    simp only at h
    simp [hs, h]
theorem in_ud (b : Bool) : inStr (.str (rowS [b])) (.str (rowS [true, false])) = some (.bl true) := by
  have h : (!(Builtin.Str.occurrences (rowS [true, false]) (rowS [b]) 0 (rowS [true, false]).length 1).isEmpty) = true := by
    cases b <;> decide +kernel
  show some (D.bl (!(Builtin.Str.occurrences (rowS [true, false]) (rowS [b]) 0 (rowS [true, false]).length 1).isEmpty)) = _
  rw [h]
theorem all_true (n : Nat) : allD [.lst (List.replicate n (.bl true))] = some (.bl true) := by
  have h := all_bl (f := fun _ => true) (List.replicate n D.non)
  rw [List.map_replicate] at h
  rw [h]
  simp
theorem is_word_spec {bs : List Bool} {n : Nat} (hl : bs.length ≤ n) (hn : n ≤ 1000) (μ : Store) : g_is_word [.str (rowS bs), .str "ud", .int 0, .int (n : Nat)] μ = .ok (.bl true) μ := by
  rw [rowS_ud]
  have el : lenD [.str (rowS bs)] = some (.int (bs.length : Nat)) := by
    show (if Nat.ble (rowS bs).length 1000000 = true then some (D.int ((rowS bs).length : Nat)) else none) = _
    rw [rowS_len, if_pos (Nat.ble_eq.mpr (by omega))]
  have hc : C_is_word_1 [.fz (.str (rowS bs)), .fz (.str (rowS [true, false])), .fz (.int 0), .fz (.int (n : Nat)), .no] μ = .ok (.lst (List.replicate bs.length (.bl true))) μ := by
    refine (ev_lcT (h := fun _ => .bl true) (ds := strD (rowS bs)) (μ' := μ) (by simp) rfl (by rw [strD_row]; simp; omega) fun d hd => ?_).trans ?_
    · rw [strD_row] at hd
      obtain ⟨b, _, rfl⟩ := List.mem_map.mp hd
      exact ⟨_, rfl, by simp [wipeE, in_ud]⟩
    · rw [strD_row, List.map_map]
      congr 2
      apply List.ext_getElem?
      intro i
      rw [List.getElem?_map, List.getElem?_replicate]
      by_cases hi : i < bs.length
      · rw [List.getElem?_eq_getElem hi, if_pos hi]; rfl
      · rw [List.getElem?_eq_none (by omega), if_neg hi]; rfl
  have h2 : (bs.length : Int) ≤ (n : Nat) := by omega
  have h1 : (0 : Int) ≤ (bs.length : Int) := by omega
  unfold g_is_word F_is_word
  simp [isiD, Ty.has, el, h2, h1, hc, all_true]
theorem end_of_row_spec {P : Plan} (hP : PlanOk P) {bs : List Bool} (hl : bs.length ≤ P.length) (μ : Store) : g_end_of_row [planD P, .str (rowS bs)] μ = .ok (endD (endG P 0 0 bs)) μ := by
  have el : lenD [planD P] = some (.int (P.length : Nat)) := by
    show some (D.int ((P.map pairI).length : Nat)) = _
    rw [List.length_map]
  have hle := hP.le
  unfold g_end_of_row F_end_of_row
  simp [need_plan hP, el, is_word_spec hl (by omega), end_of_spec hl]
end K75
set_option Elab.async false
set_option linter.all false
set_option maxRecDepth 100000
set_option maxHeartbeats 2000000
namespace K75
open PySem DC
/-! ### _law_end -/
def rngI : Int → Nat → List D
  | _, 0 => []
  | lo, n + 1 => .int lo :: rngI (lo + 1) n
theorem rangeD_rng : ∀ (n : Nat) (lo : Int), rangeD lo n = rngI lo n
  | 0, _ => rfl
  | n + 1, lo => by
    show (List.range (n + 1)).map (fun i => D.int (lo + (i : Nat))) = .int lo :: rngI (lo + 1) n
    rw [List.range_succ_eq_map, List.map_cons, List.map_map, ← rangeD_rng n (lo + 1)]
    have e : ((fun i : Nat => D.int (lo + (i : Nat))) ∘ Nat.succ) = fun i : Nat => D.int (lo + 1 + (i : Nat)) := by
      funext i
      show D.int (lo + ((i + 1 : Nat) : Int)) = _
      congr 1
      omega
    rw [e]
    show D.int (lo + ((0 : Nat) : Int)) :: _ = _
    rw [show lo + ((0 : Nat) : Int) = lo by omega]
    rfl
def cnt (bs : List Bool) : Nat := (bs.filter id).length
theorem cnt_snoc (bs : List Bool) (b : Bool) : (cnt (bs ++ [b]) : Int) = cnt bs + bI b := by
  unfold cnt bI
  rw [List.filter_append, List.length_append]
  cases b <;> simp
theorem cut_row {bs : List Bool} {k : Nat} : L2.cutS (rowS bs) none (some ((k : Nat) : Int)) = rowS (bs.take k) := by
  unfold L2.cutS
  rw [HT.sIx_none, HT.sIx_nat, rowS_len]
  unfold rowS
  simp
theorem cutD_len {bs : List Bool} {k : Nat} (h : bs.length ≤ 1000) : slT (.str (rowS bs)) none (some ((k : Nat) : Int)) = some (.str (rowS (bs.take k))) := by
  show (if Nat.ble (rowS bs).length 1000000 = true then some (D.str (L2.cutS (rowS bs) none (some ((k : Nat) : Int)))) else none) = _
  rw [rowS_len, if_pos (Nat.ble_eq.mpr (by omega)), cut_row]
def isU : D → Bool
  | .str x => decide (x = rowS [true])
  | _ => false
theorem filt_u (bs : List Bool) : ((bs.map fun b => D.str (rowS [b])).filter isU).length = cnt bs := by
  rw [List.filter_map, List.length_map]
  unfold cnt
  congr 1
  apply List.filter_congr
  intro b _
  show decide (rowS [b] = rowS [true]) = b
  have := eq_u b
  rw [ev_eqSS, rowS_u] at this
  exact D.bl.inj (Option.some.inj this)
theorem le_c {pl : D} {bs : List Bool} {k : Nat} {s3 : Sl} {μ : Store} (h : bs.length ≤ 1000) : ∃ ds, C__law_end_1 [.fz pl, .fz (.str (rowS bs)), .fz (.int (k : Nat)), s3, .no] μ = .ok (.lst ds) μ ∧ ds.length = cnt (bs.take (k + 1)) := by
  refine ⟨(((bs.take (k + 1)).map fun b => D.str (rowS [b])).filter isU).map id, ?_, by rw [List.map_id]; exact filt_u _⟩
  have ek : ((k : Nat) : Int) + 1 = ((k + 1 : Nat) : Int) := by omega
  have hsl := cutD_len (bs := bs) (k := k + 1) h
  have hs : iSeq (xSl (xVar 1) oNone (oSome (xBin addD (xVar 2) (xC (.int 1))))) [.fz pl, .fz (.str (rowS bs)), .fz (.int (k : Nat)), s3, .no] μ = .ok ((bs.take (k + 1)).map fun b => D.str (rowS [b])) μ := by
    rw [← ek] at hsl
    simp only [ev_seq_src, ev_sl, ev_var, ev_oNone, ev_oSome, ev_bin, ev_C, ev_addI, ev_ofO_some, List.getElem?_cons_succ, List.getElem?_cons_zero, slV_fz, ev_bind_ok, hsl, ev_iSeqD_str, strD_row]
  refine ev_lc (p := isU) (h := id) hs rfl (by simp; omega) fun d hd => ?_
  obtain ⟨b, _, rfl⟩ := List.mem_map.mp hd
  refine ⟨_, rfl, ?_, fun _ => by simp [wipeE]⟩
  have := eq_u b
  have hb : isU (.str (rowS [b])) = b := by
    show decide (rowS [b] = rowS [true]) = b
    rw [ev_eqSS, rowS_u] at this
    exact D.bl.inj (Option.some.inj this)
  rw [hb]
  simp [-ev_eqSS, wipeE, eq_u]
theorem le_step {P : Plan} {bs : List Bool} {k : Nat} {l h : Int} {s3 : Sl} {μ : Store} (hb : bs.length ≤ 1000) (hx : P[k]? = some (l, h)) :
    L__law_end_2 [.fz (planD P), .fz (.str (rowS bs)), .fz (.int (k : Nat)), s3, .no] μ =
    if (cnt (bs.take (k + 1)) : Int) ≤ l then .rt (endD (some (k + 1, true))) μ else if h ≤ (cnt (bs.take (k + 1)) : Int) then .rt (endD (some (k + 1, false))) μ else .nx [.fz (planD P), .fz (.str (rowS bs)), .fz (.int (k : Nat)), .fz (.int (cnt (bs.take (k + 1)))), .no] μ := by
  obtain ⟨ds, hc, hd⟩ := le_c (pl := planD P) (bs := bs) (k := k) (s3 := s3) (μ := μ) hb
  have e0 := ix_plan hx μ
  have el : lenD [.lst ds] = some (.int (cnt (bs.take (k + 1)))) := by
    show some (D.int (ds.length : Nat)) = _
    rw [hd]
  by_cases h1 : (cnt (bs.take (k + 1)) : Int) ≤ l
  · simp [hc, el, e0, ix_pair0, ix_pair1, h1, endD]
  · by_cases h2 : h ≤ (cnt (bs.take (k + 1)) : Int)
    · simp [hc, el, e0, ix_pair0, ix_pair1, h1, h2, endD]
    · simp [hc, el, e0, ix_pair0, ix_pair1, h1, h2]
theorem le_loop {P : Plan} {μ : Store} (hP : P.length ≤ 1000) : ∀ (suf pre : List Bool) (s2 s3 : Sl), pre.length + suf.length ≤ P.length →
    match endG (P.drop pre.length) pre.length (cnt pre) suf with
    | none => ∃ ρ', sForL (gN 2) L__law_end_2 (rngI (pre.length : Nat) suf.length) [.fz (planD P), .fz (.str (rowS (pre ++ suf))), s2, s3, .no] μ = .nx ρ' μ
    | some e => sForL (gN 2) L__law_end_2 (rngI (pre.length : Nat) suf.length) [.fz (planD P), .fz (.str (rowS (pre ++ suf))), s2, s3, .no] μ = .rt (endD (some e)) μ
  | [], pre, s2, s3, _ => by
    simp only [endG]
    exact ⟨_, rfl⟩
  | b :: suf, pre, s2, s3, hl => by
    simp only [List.length_cons] at hl
    obtain ⟨⟨l, h⟩, hx, hd⟩ := drop_cons (P := P) (k := pre.length) (by omega)
    have es := le_step (P := P) (bs := pre ++ b :: suf) (k := pre.length) (s3 := s3) (μ := μ) (by simp; omega) hx
    have et : (pre ++ b :: suf).take (pre.length + 1) = pre ++ [b] := by
      rw [show pre ++ b :: suf = (pre ++ [b]) ++ suf by simp, show pre.length + 1 = (pre ++ [b]).length by simp, List.take_left]
    rw [et, cnt_snoc] at es
    rw [hd]
    simp only [endG]
    show match (if (cnt pre : Int) + bI b ≤ l then some (pre.length + 1, true) else if h ≤ (cnt pre : Int) + bI b then some (pre.length + 1, false) else endG (P.drop (pre.length + 1)) (pre.length + 1) ((cnt pre : Int) + bI b) suf) with
    | none => ∃ ρ', sForL _ _ (.int (pre.length : Nat) :: rngI ((pre.length : Nat) + 1) suf.length) _ μ = .nx ρ' μ
    | some e => sForL _ _ (.int (pre.length : Nat) :: rngI ((pre.length : Nat) + 1) suf.length) _ μ = .rt (endD (some e)) μ
    by_cases h1 : (cnt pre : Int) + bI b ≤ l
    · rw [if_pos h1] at es ⊢
      exact forL_rt (ρ1 := [.fz (planD P), .fz (.str (rowS (pre ++ b :: suf))), .fz (.int (pre.length : Nat)), s3, .no]) rfl es
    · by_cases h2 : h ≤ (cnt pre : Int) + bI b
      · rw [if_neg h1, if_pos h2] at es ⊢
        exact forL_rt (ρ1 := [.fz (planD P), .fz (.str (rowS (pre ++ b :: suf))), .fz (.int (pre.length : Nat)), s3, .no]) rfl es
      · rw [if_neg h1, if_neg h2] at es ⊢
        have ih := le_loop (P := P) (μ := μ) hP suf (pre ++ [b]) (.fz (.int (pre.length : Nat))) (.fz (.int ((cnt pre : Int) + bI b))) (by simp; omega)
        rw [forL_cons (ρ1 := [.fz (planD P), .fz (.str (rowS (pre ++ b :: suf))), .fz (.int (pre.length : Nat)), s3, .no]) rfl es]
        have e1 : (pre ++ [b]).length = pre.length + 1 := by simp
        have e2 : pre ++ [b] ++ suf = pre ++ b :: suf := by simp
        have e3 : (((pre.length + 1 : Nat)) : Int) = ((pre.length : Nat) : Int) + 1 := by omega
        rw [e1, e2, cnt_snoc, e3] at ih
        exact ih
theorem law_end_spec {P : Plan} (hP : P.length ≤ 1000) {bs : List Bool} (hl : bs.length ≤ P.length) (μ : Store) : g__law_end [planD P, .str (rowS bs)] μ = .ok (endD (endG P 0 0 bs)) μ := by
  have el : lenD [.str (rowS bs)] = some (.int (bs.length : Nat)) := by
    show (if Nat.ble (rowS bs).length 1000000 = true then some (D.int ((rowS bs).length : Nat)) else none) = _
    rw [rowS_len, if_pos (Nat.ble_eq.mpr (by omega))]
  have hr := rgOk_int (i := (bs.length : Nat)) (by omega) (by omega)
  have hs : iRg1 (lCons (xCb lenD (lCons (xVar 1) lNil)) lNil) [.fz (planD P), .fz (.str (rowS bs)), .no, .no, .no] μ = .ok (rngI 0 bs.length) μ := by
    unfold iRg1
    simp [el, hr, rangeD_rng]
  have h := le_loop (P := P) (μ := μ) hP bs [] .no .no (by simpa using hl)
  simp only [List.length_nil, List.drop_zero, List.nil_append] at h
  have c0 : ((cnt [] : Nat) : Int) = 0 := rfl
  have z0 : ((0 : Nat) : Int) = 0 := rfl
  rw [c0, z0] at h
  unfold g__law_end F__law_end
  cases e : endG P 0 0 bs with
  | none =>
    rw [e] at h
    obtain ⟨ρ', h⟩ := h
    simp [hs, h, endD]
  | some x =>
    rw [e] at h
    simp only at h
    simp [hs, h]
end K75
set_option Elab.async false
set_option linter.all false
set_option maxRecDepth 100000
set_option maxHeartbeats 2000000
namespace K75
open PySem DC
/-! ### powers, sums -/
theorem pow_loop {s1 : Sl} {μ : Store} : ∀ (n : Nat) (lo x : Int) (s3 : Sl), ∃ s3', sForL (gN 3) L__law_power_1 (rngI lo n) [.fz (.int 2), s1, .fz (.int x), s3] μ = .nx [.fz (.int 2), s1, .fz (.int (x * 2 ^ n)), s3'] μ
  | 0, lo, x, s3 => ⟨s3, by simp [rngI]⟩
  | n + 1, lo, x, s3 => by
    obtain ⟨s3', e⟩ := pow_loop (s1 := s1) (μ := μ) n (lo + 1) (x * 2) (.fz (.int lo))
    refine ⟨s3', ?_⟩
    have hm := ev_mul (i := x) (j := 2) (mulOk_r (by decide))
    show sForL _ _ (.int lo :: rngI (lo + 1) n) _ μ = _
    rw [forL_cons (ρ1 := [.fz (.int 2), s1, .fz (.int x), .fz (.int lo)]) (ρ2 := [.fz (.int 2), s1, .fz (.int (x * 2)), .fz (.int lo)]) (μ2 := μ) rfl (by simp [hm]), e]
    have : x * 2 * 2 ^ n = x * 2 ^ (n + 1) := by rw [Int.mul_assoc, Int.pow_succ, Int.mul_comm 2 (2 ^ n)]
    rw [this]
theorem power_spec {n : Nat} (hn : n ≤ 1000) (μ : Store) : g__law_power [.int 2, .int (n : Nat)] μ = .ok (.int (2 ^ n)) μ := by
  obtain ⟨s3', e⟩ := pow_loop (s1 := .fz (.int (n : Nat))) (μ := μ) n 0 1 .no
  have hr := rgOk_int (i := (n : Nat)) (by omega) (by omega)
  have hs : iRg1 (lCons (xVar 1) lNil) [.fz (.int 2), .fz (.int (n : Nat)), .fz (.int 1), .no] μ = .ok (rngI 0 n) μ := by
    unfold iRg1
    simp [hr, rangeD_rng]
  unfold g__law_power F__law_power
  simp [hs, e]
theorem stepZ_sum : ∀ (a : List Int) (z : Int), (stepZ z a).sum = 2 * a.sum + z
  | [], z => by simp [stepZ]
  | x :: a, z => by
    show ((x + z) :: stepZ x a).sum = _
    rw [List.sum_cons, stepZ_sum a x, List.sum_cons]
    omega
theorem stepH_sum (a : List Int) : (stepH a).sum = 2 * a.sum := by rw [stepH_Z, stepZ_sum]; omega
theorem open_end_sum (l h : Int) (a : List Int) : (openL l h a).sum + (endL l h a).sum = a.sum := by
  induction a using snocInd with
  | h0 => rfl
  | h1 a w ih =>
    have e1 : openL l h (a ++ [w]) = openL l h a ++ [if inB l h a.length then w else 0] := by
      unfold openL
      rw [List.mapIdx_append]
      simp
    have e2 : endL l h (a ++ [w]) = endL l h a ++ [if inB l h a.length then 0 else w] := by
      unfold endL
      rw [List.mapIdx_append]
      simp
    rw [e1, e2, List.sum_append, List.sum_append, List.sum_append]
    split <;> simp <;> omega
def Sm (m : Nat) (pts : List (Int × Int × Int)) : Int := ((pts.filter fun t => decide (t.1 ≤ (m : Int))).map fun t => t.2.2 * 2 ^ ((m : Int) - t.1).toNat).sum
theorem Sm_app (m : Nat) (a b : List (Int × Int × Int)) : Sm m (a ++ b) = Sm m a + Sm m b := by
  unfold Sm
  rw [List.filter_append, List.map_append, List.sum_append]
theorem row_sum (k : Nat) (r : List Int) (hn : NN r) : ((rowPts k r).map fun t => t.2.2).sum = r.sum := by
  induction r using snocInd with
  | h0 => rfl
  | h1 a w ih =>
    have hw : 0 ≤ w := hn w (by simp)
    have e : rowPts k (a ++ [w]) = rowPts k a ++ (if 0 < w then [((k : Int) + 1, (a.length : Int), w)] else []) := by
      unfold rowPts
      rw [enumI_snoc, List.filter_append, List.map_append]
      congr 1
      by_cases hx : 0 < w <;> simp [hx]
    rw [e, List.map_append, List.sum_append, List.sum_append, ih fun x hx => hn x (List.mem_append_left _ hx)]
    split
    · simp
    · have : w = 0 := by omega
      subst this; simp
theorem sum_mul (l : List (Int × Int × Int)) (c : Int) : (l.map fun t => t.2.2 * c).sum = (l.map fun t => t.2.2).sum * c := by
  induction l with
  | nil => simp
  | cons t l ih => rw [List.map_cons, List.sum_cons, ih, List.map_cons, List.sum_cons, Int.add_mul]
theorem Sm_row (m k : Nat) (r : List Int) (hn : NN r) : Sm m (rowPts k r) = if k + 1 ≤ m then r.sum * 2 ^ (m - k - 1) else 0 := by
  have hk : ∀ t, t ∈ rowPts k r → t.1 = (k : Int) + 1 := fun t ht => by
    unfold rowPts at ht
    obtain ⟨e, _, rfl⟩ := List.mem_map.mp ht
    rfl
  unfold Sm
  by_cases h : k + 1 ≤ m
  · rw [if_pos h, List.filter_eq_self.mpr fun t ht => decide_eq_true (by rw [hk t ht]; omega)]
    have e : (rowPts k r).map (fun t => t.2.2 * 2 ^ ((m : Int) - t.1).toNat) = (rowPts k r).map fun t => t.2.2 * 2 ^ (m - k - 1) := List.map_congr_left fun t ht => by
      rw [hk t ht, show ((m : Int) - ((k : Int) + 1)).toNat = m - k - 1 by omega]
    rw [e, sum_mul, row_sum k r hn]
  · rw [if_neg h, List.filter_eq_nil_iff.mpr fun t ht => by simp; rw [hk t ht]; omega]
    rfl
theorem Sm_late (m : Nat) : ∀ (rs : List (List Int)) (k : Nat), m ≤ k → (∀ r, r ∈ rs → NN r) → Sm m (ptsT k rs) = 0
  | [], _, _, _ => rfl
  | r :: rs, k, h, hn => by
    show Sm m (rowPts k r ++ ptsT (k + 1) rs) = 0
    rw [Sm_app, Sm_row m k r (hn r (by simp)), if_neg (by omega), Sm_late m rs (k + 1) (by omega) fun x hx => hn x (List.mem_cons_of_mem _ hx)]
    rfl
theorem endL_nn {l h : Int} {a : List Int} (hn : NN a) : NN (endL l h a) := fun x hx => by
  obtain ⟨i, hi⟩ := List.getElem?_of_mem hx
  unfold endL at hi
  rw [List.getElem?_mapIdx] at hi
  cases e : a[i]? with
  | none => rw [e] at hi; cases hi
  | some w =>
    rw [e] at hi
    have e2 : (if inB l h i then 0 else w) = x := Option.some.inj hi
    have hw := hn w (List.mem_of_getElem? e)
    split at e2 <;> omega
theorem endsT_nn : ∀ (p : Plan) (a : List Int), NN a → ∀ r, r ∈ endsT p a → NN r
  | [], _, _, r, h => by cases h
  | (l, h) :: p, a, hn, r, hr => by
    rcases List.mem_cons.mp (show r ∈ endL l h (stepH a) :: endsT p (openL l h (stepH a)) from hr) with e | hr
    · rw [e]; exact endL_nn (stepH_nn hn)
    · exact endsT_nn p _ (openL_nn (stepH_nn hn)) r hr
def opAt (p : Plan) (a : List Int) (j : Nat) : List Int := (a :: opensT p a).getD j []
theorem opAt_succ (l h : Int) (p : Plan) (a : List Int) (j : Nat) : opAt ((l, h) :: p) a (j + 1) = opAt p (openL l h (stepH a)) j := rfl
theorem conserve : ∀ (p : Plan) (a : List Int) (k j : Nat), NN a → j ≤ p.length → (opAt p a j).sum + Sm (k + j) (ptsT k (endsT p a)) = a.sum * 2 ^ j
  | p, a, k, 0, hn, _ => by
    rw [Sm_late (k + 0) _ k (by omega) (endsT_nn p a hn)]
    show a.sum + 0 = a.sum * 1
    omega
  | [], a, k, j + 1, hn, hj => by simp at hj
  | (l, h) :: p, a, k, j + 1, hn, hj => by
    simp only [List.length_cons] at hj
    have ih := conserve p (openL l h (stepH a)) (k + 1) j (openL_nn (stepH_nn hn)) (by omega)
    rw [opAt_succ]
    show _ + Sm (k + (j + 1)) (rowPts k (endL l h (stepH a)) ++ ptsT (k + 1) (endsT p (openL l h (stepH a)))) = _
    rw [Sm_app, Sm_row _ _ _ (endL_nn (stepH_nn hn)), if_pos (by omega), show k + (j + 1) - k - 1 = j by omega]
    rw [show k + 1 + j = k + (j + 1) by omega] at ih
    have hs := open_end_sum l h (stepH a)
    rw [stepH_sum] at hs
    have e : (endL l h (stepH a)).sum = 2 * a.sum - (openL l h (stepH a)).sum := by omega
    rw [e, Int.sub_mul, Int.pow_succ]
    have e2 : 2 * a.sum * 2 ^ j = a.sum * (2 ^ j * 2) := by rw [Int.mul_comm 2 a.sum, Int.mul_assoc, Int.mul_comm 2]
    omega
theorem opAt_get {p : Plan} {a : List Int} {j : Nat} (hj : j ≤ p.length) : (a :: opensT p a)[j]? = some (opAt p a j) := by
  unfold opAt
  rw [List.getD_eq_getElem?_getD, List.getElem?_eq_getElem (by rw [List.length_cons, opensT_len]; omega)]
  rfl
theorem opAt_len : ∀ (p : Plan) (a : List Int) (j : Nat), j ≤ p.length → (opAt p a j).length = a.length + j
  | _, a, 0, _ => rfl
  | [], a, j + 1, h => by simp at h
  | (l, h) :: p, a, j + 1, hj => by
    rw [opAt_succ, opAt_len p _ j (by simpa using hj), openL_len, stepH_len]
    omega
theorem zero_sum {a : List Int} (h : ∀ x, x ∈ a → x = 0) : a.sum = 0 := by
  induction a with
  | nil => rfl
  | cons x a ih =>
    rw [List.sum_cons, h x (by simp), ih fun y hy => h y (List.mem_cons_of_mem _ hy)]
    rfl
theorem last_zero : ∀ (p : Plan) (a : List Int), p ≠ [] → (∀ x, p.getLast? = some x → x.2 = x.1 + 1) → (opAt p a p.length).sum = 0
  | [], _, h, _ => absurd rfl h
  | [(l, h)], a, _, hl => by
    have e : h = l + 1 := hl (l, h) rfl
    subst e
    refine zero_sum fun x hx => ?_
    have hx' : x ∈ openL l (l + 1) (stepH a) := hx
    obtain ⟨i, hi⟩ := List.getElem?_of_mem hx'
    unfold openL at hi
    rw [List.getElem?_mapIdx] at hi
    cases e : (stepH a)[i]? with
    | none => rw [e] at hi; cases hi
    | some w =>
      rw [e] at hi
      have e2 : (if inB l (l + 1) i then w else 0) = x := Option.some.inj hi
      have hf : inB l (l + 1) i = false := by
        unfold inB
        by_cases h1 : l < (i : Int)
        · rw [decide_eq_true h1, decide_eq_false (by omega)]; rfl
        · rw [decide_eq_false h1]; rfl
      rw [hf] at e2
      exact e2.symm
  | (l, h) :: y :: p, a, _, hl => by
    show (opAt ((l, h) :: y :: p) a ((y :: p).length + 1)).sum = 0
    rw [opAt_succ]
    exact last_zero (y :: p) _ (by simp) fun x hx => hl x (by rw [List.getLast?_cons_cons]; exact hx)
end K75
set_option Elab.async false
set_option linter.all false
set_option maxRecDepth 100000
set_option maxHeartbeats 2000000
namespace K75
open PySem DC
/-! ### _law_right -/
abbrev pts (p : Plan) : List (Int × Int × Int) := ptsT 0 (endsT p [1])
theorem ptsT_len : ∀ (rs : List (List Int)) (k n : Nat), (∀ r, r ∈ rs → r.length ≤ n) → (ptsT k rs).length ≤ n * rs.length
  | [], _, _, _ => by simp [ptsT]
  | r :: rs, k, n, h => by
    have h1 := rowPts_len k r
    have h2 := h r (by simp)
    have ih := ptsT_len rs (k + 1) n fun x hx => h x (List.mem_cons_of_mem _ hx)
    show (rowPts k r ++ ptsT (k + 1) rs).length ≤ n * (rs.length + 1)
    rw [List.length_append, Nat.mul_add]
    omega
theorem pts_len {p : Plan} (h : p.length ≤ 40) : (pts p).length ≤ 10000 := by
  have := ptsT_len (endsT p [1]) 0 41 fun r hr => by
    have := endsT_row p [1] r hr
    simp at this; omega
  rw [endsT_len] at this
  have h2 : 41 * p.length ≤ 41 * 40 := Nat.mul_le_mul_left _ h
  unfold pts
  omega
theorem one_nn : NN [1] := fun x hx => by simp at hx; omega
def mulF (m : Nat) : D → D
  | .tup [.int t, .int _, .int w] => .int (w * 2 ^ ((m : Int) - t).toNat)
  | _ => .non
def leF (m : Nat) : D → Bool
  | .tup [.int t, .int _, .int _] => decide (t ≤ (m : Int))
  | _ => false
theorem pts_mem {p : Plan} {t : Int × Int × Int} (h : t ∈ pts p) : 1 ≤ t.1 ∧ t.1 ≤ p.length := by
  have : ∀ (rs : List (List Int)) (k : Nat), t ∈ ptsT k rs → (k : Int) + 1 ≤ t.1 ∧ t.1 ≤ k + rs.length := by
    intro rs
    induction rs with
    | nil => intro k h; cases h
    | cons r rs ih =>
      intro k h
      rcases List.mem_append.mp (show t ∈ rowPts k r ++ ptsT (k + 1) rs from h) with h | h
      · unfold rowPts at h
        obtain ⟨e, _, rfl⟩ := List.mem_map.mp h
        simp only [List.length_cons]
        omega
      · have := ih (k + 1) h
        simp only [List.length_cons]
        omega
  have := this _ 0 h
  rw [endsT_len] at this
  omega
theorem right_c {p : Plan} {m : Nat} {s3 s4 s6 s0 s1 : Sl} {μ : Store} (hp : p.length ≤ 40) (hm : m ≤ p.length) :
    C__law_right_2 [s0, s1, .fz (.lst ((pts p).map pt3)), s3, s4, .fz (.int (m : Nat)), s6, .no, .no, .no] μ = .ok (.lst ((((pts p).filter fun t => decide (t.1 ≤ (m : Int))).map fun t => t.2.2 * 2 ^ ((m : Int) - t.1).toNat).map D.int)) μ := by
  have hl := pts_len hp
  refine (ev_lc (p := leF m) (h := mulF m) (ds := (pts p).map pt3) (μ' := μ) (by simp) rfl (by simp; omega) fun d hd => ?_).trans ?_
  · obtain ⟨t, ht, rfl⟩ := List.mem_map.mp hd
    obtain ⟨t, u, w⟩ := t
    have hb := pts_mem ht
    simp only at hb
    refine ⟨_, rfl, by simp [wipeE, leF, pt3], fun hle => ?_⟩
    have hle' : t ≤ (m : Int) := of_decide_eq_true hle
    obtain ⟨n, hn⟩ := Int.eq_ofNat_of_zero_le (show 0 ≤ (m : Int) - t by omega)
    have hpw := power_spec (n := n) (by omega) μ
    have hmul : mulOk w (2 ^ n) = true := mulOk_r (by
      have h1 : ((2 : Int) ^ n).natAbs = 2 ^ n := by rw [Int.natAbs_pow]; rfl
      rw [h1]
      exact Nat.lt_of_le_of_lt (Nat.pow_le_pow_right (by decide) (show n ≤ 40 by omega)) (by decide))
    simp [wipeE, pt3, hn, hpw, ev_mul hmul, mulF]
  · rw [List.filter_map, List.map_map, List.map_map]
    rfl
theorem D_ints (l : List Int) : D.ints (l.map D.int) = some l := D.ints_map l
theorem sumA_lst (l : List Int) : sumA [.lst (l.map D.int)] = some (.int l.sum) := by
  show (D.ints (l.map D.int)).map (fun ns => D.int ns.sum) = _
  rw [D_ints]; rfl
theorem sumA_tup (l : List Int) : sumA [.tup (l.map D.int)] = some (.int l.sum) := by
  show (D.ints (l.map D.int)).map (fun ns => D.int ns.sum) = _
  rw [D_ints]; rfl
theorem pd_pts (p : Plan) (n : Nat) : ((pts p).map pt3).all (D.pd (n + 2)) = true := by
  rw [List.all_eq_true]
  intro x hx
  obtain ⟨t, _, rfl⟩ := List.mem_map.mp hx
  rfl
theorem lb_pts (p : Plan) (n : Nat) : ((pts p).map pt3).all (lenB n) = true := by
  rw [List.all_eq_true]
  intro x hx
  obtain ⟨t, _, rfl⟩ := List.mem_map.mp hx
  cases n with
  | zero => rfl
  | succ n => cases n <;> rfl
theorem like12 {d : D} (μ : Store) (h : D.pd 12 d = true) (hb : lenB 12 d = true) : g__law_like 12 [d, d] μ = .ok (.bl true) μ := like_refl 12 (by decide) d μ h hb
theorem endD_ok (o : Option (Nat × Bool)) : D.pd 12 (endD o) = true ∧ lenB 12 (endD o) = true := by
  cases o with
  | none => exact ⟨rfl, rfl⟩
  | some x => obtain ⟨k, b⟩ := x; exact ⟨rfl, rfl⟩
theorem right_loop {p : Plan} (hP : PlanOk p) {μ : Store} {s2 : Sl} (hc : CupOk μ) : ∃ s3 s4 μ', sForL (gN 3) L__law_right_1 (rangeD 0 6) [.fz (.own 0), .fz (planD p), s2, .no, .no, .no, .no, .no, .no, .no] μ = .nx [.fz (.own 0), .fz (planD p), s2, s3, s4, .no, .no, .no, .no, .no] μ' ∧ CupOk μ' := by
  have hle := hP.le
  obtain ⟨ρ', μ', e, s3, s4, rfl, c⟩ := forL_rel (tg := gN 3) (F := L__law_right_1) (ds := rangeD 0 6) (ρ := [.fz (.own 0), .fz (planD p), s2, .no, .no, .no, .no, .no, .no, .no]) (μ := μ)
    (fun i ρ μ => ∃ s3 s4, ρ = [.fz (.own 0), .fz (planD p), s2, s3, s4, .no, .no, .no, .no, .no] ∧ CupOk μ) ⟨.no, .no, rfl, hc⟩
    (fun i d ρ μ hd ⟨s3, s4, hρ, hc⟩ => by
      subst hρ
      obtain ⟨bs, μ2, e1, c2, hb⟩ := row_spec (most := (p.length : Nat)) hc (by omega) (by omega)
      have hb' : bs.length ≤ p.length := by omega
      have el : lenD [planD p] = some (.int (p.length : Nat)) := by
        show some (D.int ((p.map pairI).length : Nat)) = _
        rw [List.length_map]
      have h1 := end_of_row_spec hP hb' μ2
      have h2 := law_end_spec (P := p) (by omega) hb' μ2
      have h3 := like12 μ2 (endD_ok (endG p 0 0 bs)).1 (endD_ok (endG p 0 0 bs)).2
      refine ⟨_, [.fz (.own 0), .fz (planD p), s2, .fz d, .fz (.str (rowS bs)), .no, .no, .no, .no, .no], μ2, rfl, ?_, .fz d, _, rfl, c2⟩
      simp [el, e1, h1, h2, h3])
  exact ⟨s3, s4, μ', e, c⟩
theorem right_spec {p : Plan} (hP : PlanOk p) {μ : Store} (hc : CupOk μ) : ∃ μ', g__law_right [.own 0, planD p] μ = .ok (.bl true) μ' ∧ CupOk μ' := by
  have hle := hP.le
  have hpos := hP.pos
  have el : lenD [planD p] = some (.int (p.length : Nat)) := by
    show some (D.int ((p.map pairI).length : Nat)) = _
    rw [List.length_map]
  have hpt := law_points_spec hle μ
  have hie := is_end_spec (n := 1) (planD_pd p) μ
  rw [(okPlan_iff p).mpr hP] at hie
  have hep := end_points_spec hP μ
  have hpl := pts_len hle
  have hl1 : g__law_like 12 [.lst [.bl true, .tup ((pts p).map pt3)], .lst [.bl true, .tup ((pts p).map pt3)]] μ = .ok (.bl true) μ := like12 μ (by
    show (true && (((pts p).map pt3).all (D.pd 10) && true)) = true
    rw [pd_pts p 8]; rfl) (by
    show (decide ([D.bl true, .tup ((pts p).map pt3)].length ≤ 1000000) && (true && ((decide (((pts p).map pt3).length ≤ 1000000) && ((pts p).map pt3).all (lenB 10)) && true))) = true
    rw [lb_pts p 10, decide_eq_true (show ((pts p).map pt3).length ≤ 1000000 by rw [List.length_map]; omega)]; rfl)
  obtain ⟨s3, s4, μ1, e1, c1⟩ := right_loop hP (s2 := .fz (.lst ((pts p).map pt3))) hc
  have hr6 := rgOk_int (i := 6) (by omega) (by omega)
  -- the empty row, the first and the last layer
  have hrow := end_of_row_spec hP (bs := []) (by simp) μ1
  have he0 : endD (endG p 0 0 []) = .non := by cases p <;> rfl
  rw [he0, ← rowS_nil] at hrow
  have ho0 := open_counts_spec hP (m := 0) (a := [1]) rfl μ1
  have ho1 := open_counts_spec hP (m := p.length) (a := opAt p [1] p.length) (opAt_get (by omega)) μ1
  have hz := last_zero p [1] (fun e => by subst e; simp at hpos) hP.last
  have hs1 := sumA_tup (opAt p [1] p.length)
  rw [hz] at hs1
  have hl2 : g__law_like 12 [.lst [.non, .tup [.int 1], .int 0], .lst [.non, .tup [.int 1], .int 0]] μ1 = .ok (.bl true) μ1 := like12 μ1 rfl rfl
  -- a number of trials
  obtain ⟨v, μ2, e2, c2, v0, v1⟩ := roll_spec (many := (p.length : Int) + 1) c1 (by omega) (by omega)
  obtain ⟨m, rfl⟩ := Int.eq_ofNat_of_zero_le v0
  have hm : m ≤ p.length := by omega
  have hcons := conserve p [1] 0 m one_nn hm
  rw [Nat.zero_add] at hcons
  obtain ⟨L, hrc, htot⟩ : ∃ L : List Int, (∀ s0 s1 s3 s4 : Sl, C__law_right_2 [s0, s1, .fz (.lst ((pts p).map pt3)), s3, s4, .fz (.int (m : Nat)), .no, .no, .no, .no] μ2 = .ok (.lst (L.map D.int)) μ2) ∧ (opAt p [1] m).sum + L.sum = 2 ^ m := by
    refine ⟨_, fun s0 s1 s3 s4 => right_c (s0 := s0) (s1 := s1) (s3 := s3) (s4 := s4) (s6 := .no) (μ := μ2) hle hm, ?_⟩
    have : (opAt p [1] m).sum + Sm m (pts p) = [1].sum * 2 ^ m := hcons
    have h1 : ([1] : List Int).sum = 1 := rfl
    rw [h1, Int.one_mul] at this
    exact this
  have hsum := sumA_lst L
  have hom := open_counts_spec hP (m := m) (a := opAt p [1] m) (opAt_get hm) μ2
  have hlm : lenD [.tup ((opAt p [1] m).map D.int)] = some (.int ((m : Int) + 1)) := by
    show some (D.int (((opAt p [1] m).map D.int).length : Nat)) = _
    rw [List.length_map, opAt_len p [1] m hm]
    congr 2
    simp; omega
  have hsm := sumA_tup (opAt p [1] m)
  have hpw := power_spec (n := m) (by omega) μ2
  have hl3 : g__law_like 12 [.lst [.int ((m : Int) + 1), .int (2 ^ m)], .lst [.int ((m : Int) + 1), .int (2 ^ m)]] μ2 = .ok (.bl true) μ2 := like12 μ2 rfl rfl
  have ho0' : g_open_counts [planD p, .int 0] μ1 = .ok (.tup [.int 1]) μ1 := ho0
  refine ⟨μ2, ?_, c2⟩
  unfold g__law_right F__law_right
  simp [hpt, hie, hep, tupleD, hl1, iRg1, hr6, e1]
  simp [hrow, ho0', el, ho1, hs1, hl2]
  simp [el, e2, hrc, hsum, hom, hlm, hsm, htot, hpw, hl3]
end K75
set_option Elab.async false
set_option linter.all false
set_option maxRecDepth 100000
set_option maxHeartbeats 2000000
namespace K75
open PySem DC
/-! ### slices of tuples -/
theorem cutD_to {xs : List D} {k : Nat} (h : k ≤ xs.length) : cutD xs none (some ((k : Nat) : Int)) = xs.take k := by
  unfold cutD
  rw [HT.sIx_none, HT.sIx_nat, Nat.min_eq_left h]
  simp
theorem cutD_from {xs : List D} {k : Nat} (h : k ≤ xs.length) : cutD xs (some ((k : Nat) : Int)) none = xs.drop k := by
  unfold cutD
  rw [HT.sIx_none, HT.sIx_nat, Nat.min_eq_left h]
  apply List.take_of_length_le
  simp
theorem sl_to {xs : List D} {k : Nat} (h : k ≤ xs.length) : slT (.tup xs) none (some ((k : Nat) : Int)) = some (.tup (xs.take k)) := by
  show some (D.tup (cutD xs none (some ((k : Nat) : Int)))) = _
  rw [cutD_to h]
theorem sl_from {xs : List D} {k : Nat} (h : k ≤ xs.length) : slT (.tup xs) (some ((k : Nat) : Int)) none = some (.tup (xs.drop k)) := by
  show some (D.tup (cutD xs (some ((k : Nat) : Int)) none)) = _
  rw [cutD_from h]
theorem addT_ok {xs ys : List D} (h : xs.length + ys.length ≤ 1000000) : addD (.tup xs) (.tup ys) = some (.tup (xs ++ ys)) := by
  show (if Nat.ble (xs.length + ys.length) 1000000 = true then some (D.tup (xs ++ ys)) else none) = _
  rw [if_pos (Nat.ble_eq.mpr h)]
theorem eq_empty {v : List D} {n : Nat} (hn : n < 60) (h : v.all (D.pd n) = true) : eqD (.tup v) (.tup []) = some (.bl v.isEmpty) := by
  unfold eqD
  have h1 : D.pd 60 (.tup v) = true := pd_mono (n + 1) 60 _ (by omega) h
  rw [h1]
  show some (D.bl (D.eqv (.tup v) (.tup []))) = _
  unfold D.eqv
  cases v <;> simp [D.toPy, D.toPyA, PyData.eqv, PyData.eqvAll]
/-- tuples nowhere too long -/
def smT : Nat → D → Prop
  | 0, _ => True
  | n + 1, d => match d with
    | .tup xs => xs.length ≤ 100 ∧ ∀ x, x ∈ xs → smT n x
    | _ => True
theorem mem_pd {n : Nat} {xs : List D} (h : xs.all (D.pd n) = true) {x : D} (hx : x ∈ xs) : D.pd n x = true := List.all_eq_true.mp h x hx
theorem pd_all {n : Nat} {xs : List D} (h : ∀ x, x ∈ xs → D.pd n x = true) : xs.all (D.pd n) = true := List.all_eq_true.mpr h
def bentB : List D := [.non, .bl true, .bl false, .int 0, .int 1, .int 2, .int 5, .int (-1), .str "", .tup [.int 0, .int 1], .tup [.int (-1), .int 2], .int 41, .int 42, .tup [], .lst []]
abbrev bentBody : SD := (sSeq (sAsg 2 (xLst (lCons (xC .non) (lCons (xC (.bl true)) (lCons (xC (.bl false)) (lCons (xC (.int 0)) (lCons (xC (.int 1)) (lCons (xC (.int 2)) (lCons (xC (.int 5)) (lCons (xUn negD (xC (.int 1))) (lCons (xC (.str "")) (lCons (xTup (lCons (xC (.int 0)) (lCons (xC (.int 1)) lNil))) (lCons (xTup (lCons (xUn negD (xC (.int 1))) (lCons (xC (.int 2)) lNil))) (lCons (xC (.int 41)) (lCons (xC (.int 42)) (lCons (xTup lNil) (lCons (xLst lNil) lNil)))))))))))))))))
    (sSeq (sIf (bVal (xBin eqD (xCall g__law_sort (lCons (xVar 1) lNil)) (xC (.int 2)))) (sAsg 2 (xBin addD (xVar 2) (xLst (lCons (xBin addD (xVar 1) (xC (.int 1))) (lCons (xBin addD (xVar 1) (xC (.int 1))) (lCons (xBin subD (xVar 1) (xC (.int 1))) lNil)))))) sNext)
    (sRet (xCall g__law_some (lCons (xVar 0) (lCons (xVar 2) lNil))))))
theorem bentB_ok : ∀ x, x ∈ bentB → D.pd 3 x = true := by
  intro x hx
  simp only [bentB, List.mem_cons, List.not_mem_nil, or_false] at hx
  rcases hx with rfl | rfl | rfl | rfl | rfl | rfl | rfl | rfl | rfl | rfl | rfl | rfl | rfl | rfl | rfl <;> rfl
theorem bent_base {n : Nat} {v : D} {μ : Store} (hn : n + 1 ≤ 60) (hv : D.pd (n + 1) v = true) (hc : CupOk μ) : ∃ d μ', bentBody [.fz (.own 0), .fz v, .no, .no, .no] μ = .rt d μ' ∧ CupOk μ' ∧ D.pd (n + 4) d = true := by
  have hs := sort_spec v (pd_mono (n + 1) 60 v (by omega) hv) μ
  by_cases h2 : srtI v = 2
  · cases v with
    | int i =>
      have ha := addL_ok (xs := bentB) (ys := [.int (i + 1), .int (i + 1), .int (i - 1)]) (by simp [bentB])
      obtain ⟨d, μ', e, c, hd⟩ := some_lst (ds := bentB ++ [.int (i + 1), .int (i + 1), .int (i - 1)]) hc (by simp [bentB]) (by simp [bentB])
      refine ⟨d, μ', ?_, c, ?_⟩
      · unfold bentB at ha e
        simp [hs, srtI, ha]
        simp at e
        simp [e]
      · rcases List.mem_append.mp hd with hd | hd
        · exact pd_mono 3 _ d (by omega) (bentB_ok d hd)
        · simp only [List.mem_cons, List.not_mem_nil, or_false] at hd
          rcases hd with rfl | rfl | rfl <;> rfl
    | _ => cases h2
  · obtain ⟨d, μ', e, c, hd⟩ := some_lst (ds := bentB) hc (by decide) (by decide)
    refine ⟨d, μ', ?_, c, pd_mono 3 _ d (by omega) (bentB_ok d hd)⟩
    unfold bentB at e
    simp [hs, h2, e]
theorem bent_spec : ∀ (n : Nat) (v : D) (μ : Store), n ≤ 20 → D.pd n v = true → smT n v → CupOk μ → ∃ d μ', g__law_bent n [.own 0, v] μ = .ok d μ' ∧ CupOk μ' ∧ D.pd (n + 3) d = true
  | 0, v, μ, _, h, _, _ => by simp [D.pd] at h
  | n + 1, v, μ, hn, hv, hsm, hc => by
    have hnd := not_dt hv
    show ∃ d μ', bodyD (F__law_bent (g__law_bent n)) 5 [.own 0, v] μ = .ok d μ' ∧ CupOk μ' ∧ D.pd (n + 4) d = true
    unfold F__law_bent
    have base := fun (μ : Store) (hc : CupOk μ) => bent_base (n := n) (v := v) (μ := μ) (by omega) hv hc
    cases v with
    | dt ks vs => exact absurd rfl (hnd _ _)
    | tup xs =>
      have hp : xs.all (D.pd n) = true := hv
      obtain ⟨hl, hx⟩ : xs.length ≤ 100 ∧ ∀ x, x ∈ xs → smT n x := hsm
      have he := eq_empty (v := xs) (n := n) (by omega) hp
      by_cases h0 : xs = []
      · subst h0
        obtain ⟨d, μ', e, c, hd⟩ := base μ hc
        refine ⟨d, μ', ?_, c, hd⟩
        have he' : eqD (.tup []) (.tup []) = some (.bl true) := he
        simp only [bentBody] at e
        simp [isiD, Ty.has, he'] at e ⊢
        simp [e]
      · have h0' : xs.isEmpty = false := by cases xs with | nil => exact absurd rfl h0 | cons _ _ => rfl
        rw [h0'] at he
        obtain ⟨v1, μ1, e1, c1, a1, b1⟩ := roll_spec (many := 8) hc (by omega) (by omega)
        by_cases hz : v1 = 0
        · obtain ⟨d, μ', e, c, hd⟩ := base μ1 c1
          refine ⟨d, μ', ?_, c, hd⟩
          simp only [bentBody] at e
          simp [isiD, Ty.has, he, e1, hz] at e ⊢
          simp [e]
        · have hpos : 0 < xs.length := List.length_pos_iff.mpr h0
          obtain ⟨v2, μ2, e2, c2, a2, b2⟩ := roll_spec (many := (xs.length : Int)) c1 (by omega) (by omega)
          obtain ⟨v3, μ3, e3, c3, a3, b3⟩ := roll_spec (many := 12) c2 (by omega) (by omega)
          obtain ⟨k, rfl⟩ := Int.eq_ofNat_of_zero_le a2
          have hk : k < xs.length := by omega
          have ek : ((k : Nat) : Int) + 1 = ((k + 1 : Nat) : Int) := by omega
          have el : lenD [.tup xs] = some (.int (xs.length : Nat)) := rfl
          have t1 := sl_to (xs := xs) (k := k) (by omega)
          have t2 := sl_to (xs := xs) (k := k + 1) (by omega)
          have f1 := sl_from (xs := xs) (k := k) (by omega)
          have f2 := sl_from (xs := xs) (k := k + 1) (by omega)
          rw [← ek] at t2 f2
          have pdt : ∀ ys : List D, (∀ y, y ∈ ys → y ∈ xs) → D.pd (n + 4) (.tup ys) = true := fun ys h => pd_all fun y hy => pd_mono n (n + 3) y (by omega) (mem_pd hp (h y hy))
          by_cases w0 : v3 = 0
          · have ha := addT_ok (xs := xs.take k) (ys := xs.drop (k + 1)) (by simp; omega)
            refine ⟨_, μ3, ?_, c3, pdt (xs.take k ++ xs.drop (k + 1)) fun y hy => ?_⟩
            · simp [isiD, Ty.has, he, e1, hz, el, e2, e3, w0, t1, f2, ha]
            · rcases List.mem_append.mp hy with hy | hy
              · exact List.mem_of_mem_take hy
              · exact List.mem_of_mem_drop hy
          · by_cases w1 : v3 = 1
            · have ha := addT_ok (xs := xs.take (k + 1)) (ys := xs.drop k) (by simp; omega)
              refine ⟨_, μ3, ?_, c3, pdt (xs.take (k + 1) ++ xs.drop k) fun y hy => ?_⟩
              · simp [isiD, Ty.has, he, e1, hz, el, e2, e3, w1, t2, f1, ha]
              · rcases List.mem_append.mp hy with hy | hy
                · exact List.mem_of_mem_take hy
                · exact List.mem_of_mem_drop hy
            · by_cases w2 : v3 = 2
              · refine ⟨.lst xs, μ3, ?_, c3, pdt xs fun y hy => hy⟩
                simp [isiD, Ty.has, he, e1, hz, el, e2, e3, w2, listD]
              · by_cases w3 : v3 = 3
                · refine ⟨.tup xs.reverse, μ3, ?_, c3, pdt xs.reverse fun y hy => List.mem_reverse.mp hy⟩
                  simp [isiD, Ty.has, he, e1, hz, el, e2, e3, w3, revTD]
                · have hm := List.getElem_mem hk
                  obtain ⟨d, μ4, e4, c4, hd⟩ := bent_spec n xs[k] μ3 (by omega) (mem_pd hp hm) (hx _ hm) c3
                  have hi : ixS μ3 (.tup xs) (.int (k : Nat)) = some xs[k] := by
                    show L2.atI xs (k : Nat) = _
                    exact L2.atI_nat (List.getElem?_eq_getElem hk)
                  have ha := addT_ok (xs := xs.take k) (ys := [d]) (by simp; omega)
                  have hb := addT_ok (xs := xs.take k ++ [d]) (ys := xs.drop (k + 1)) (by simp; omega)
                  refine ⟨.tup (xs.take k ++ [d] ++ xs.drop (k + 1)), μ4, ?_, c4, pd_all fun y hy => ?_⟩
                  · simp [isiD, Ty.has, he, e1, hz, el, e2, e3, w0, w1, w2, w3, t1, f2, hi, e4, ha]
                    simp at hb
                    simp [hb]
                  · rcases List.mem_append.mp hy with hy | hy
                    · rcases List.mem_append.mp hy with hy | hy
                      · exact pd_mono n (n + 3) y (by omega) (mem_pd hp (List.mem_of_mem_take hy))
                      · rw [List.mem_singleton.mp hy]; exact hd
                    · exact pd_mono n (n + 3) y (by omega) (mem_pd hp (List.mem_of_mem_drop hy))
    | _ =>
      obtain ⟨d, μ', e, c, hd⟩ := base μ hc
      refine ⟨d, μ', ?_, c, hd⟩
      simp only [bentBody] at e
      simp [isiD, Ty.has] at e ⊢
      simp [e]
end K75
set_option Elab.async false
set_option linter.all false
set_option maxRecDepth 100000
set_option maxHeartbeats 2000000
namespace K75
open PySem DC
/-! ### _law_judged -/
@[simp] theorem ev_asgG {f : XD} {g : Tg} {ρ : DC.Env} {μ : Store} : sAsgG f g ρ μ = (f ρ μ).st ρ fun d μ' => match g d ρ with
  | some ρ' => .nx ρ' μ'
  | none => .fail := rfl
theorem addL_lst {xs ys : List D} (h : xs.length + ys.length ≤ 1000000) : addL (.lst xs) (.lst ys) = some (.lst (xs ++ ys)) := by
  show (if Nat.ble (xs.length + ys.length) 1000000 = true then some (D.lst (xs ++ ys)) else none) = _
  rw [if_pos (Nat.ble_eq.mpr h)]
theorem cutD_len' (xs : List D) (l h : Option Int) : (cutD xs l h).length ≤ xs.length := by
  unfold cutD
  rw [List.length_take, List.length_drop]
  omega
theorem cutD_mem {xs : List D} {l h : Option Int} {x : D} (hx : x ∈ cutD xs l h) : x ∈ xs := by
  unfold cutD at hx
  exact List.mem_of_mem_drop (List.mem_of_mem_take hx)
theorem judged_c {v0 v1 s2 s3 s4 s6 : Sl} {vs : List D} {μ : Store} (hp : vs.all (D.pd 30) = true) (hl : vs.length ≤ 1000) : C__law_judged_2 [v0, v1, s2, s3, s4, .fz (.lst vs), s6, .no] μ = .ok (.lst []) μ := by
  refine (ev_lc (p := fun _ => false) (h := id) (ds := vs) (μ' := μ) (by simp) rfl (by omega) fun d hd => ?_).trans ?_
  · have h1 := is_end_spec (n := 28) (mem_pd hp hd) μ
    have h2 := is_plan_spec (n := 28) (by omega) (mem_pd hp hd) μ
    have h3 := like12 (d := .bl (okPlanB d)) μ rfl rfl
    exact ⟨_, rfl, by simp [wipeE, h1, h2, h3], fun h => by cases h⟩
  · rw [filter_ff]; rfl
abbrev oddsD (l h : Int) : List D := [.tup [.int h, .int l], .tup [.int l, .int l], .lst [.int l, .int h], .tup [.int l], .tup [.int l, .int h, .int h], .non, .tup [.int l, .bl true], .tup [.int l, .str "1"], .tup [.int (-2), .int h], .tup [.int l, .int 42], .tup [.int l, .int (h + 1)]]
theorem odds_pd (l h : Int) : ∀ x, x ∈ oddsD l h → D.pd 3 x = true := by
  intro x hx
  simp only [oddsD, List.mem_cons, List.not_mem_nil, or_false] at hx
  rcases hx with rfl | rfl | rfl | rfl | rfl | rfl | rfl | rfl | rfl | rfl | rfl <;> rfl
theorem judged_loop {p : Plan} (hp : p.length ≤ 40) {k : Nat} (hk : k < p.length) {l h : Int} {vs : List D} {μ : Store} (hv : vs.all (D.pd 30) = true) (hl : vs.length ≤ 100) : ∃ vs' s6, sForL (gN 6) L__law_judged_1 (oddsD l h) [.fz (.own 0), .fz (planD p), .fz (.int (k : Nat)), .fz (.int l), .fz (.int h), .ow (.lst vs), .no, .no] μ =
    .nx [.fz (.own 0), .fz (planD p), .fz (.int (k : Nat)), .fz (.int l), .fz (.int h), .ow (.lst vs'), s6, .no] μ ∧ vs'.all (D.pd 30) = true ∧ vs'.length ≤ 200 := by
  have hxs : (p.map pairI).all (D.pd 2) = true := planD_pd p
  obtain ⟨ρ', μ', e, vs', s6, rfl, rfl, h1, h2⟩ := forL_rel (tg := gN 6) (F := L__law_judged_1) (ds := oddsD l h) (ρ := [.fz (.own 0), .fz (planD p), .fz (.int (k : Nat)), .fz (.int l), .fz (.int h), .ow (.lst vs), .no, .no]) (μ := μ)
    (fun i ρ μ' => ∃ vs' s6, ρ = [.fz (.own 0), .fz (planD p), .fz (.int (k : Nat)), .fz (.int l), .fz (.int h), .ow (.lst vs'), s6, .no] ∧ μ' = μ ∧ vs'.all (D.pd 30) = true ∧ vs'.length ≤ 100 + i) ⟨vs, .no, rfl, rfl, hv, hl⟩
    (fun i d ρ μ' hd ⟨vs', s6, hρ, hμ, h1, h2⟩ => by
      subst hρ hμ
      have hin : i < (oddsD l h).length := (List.getElem?_eq_some_iff.mp hd).1
      have hi11 : (oddsD l h).length = 11 := rfl
      have hdp := odds_pd l h d (List.mem_of_getElem? hd)
      have ek : ((k : Nat) : Int) + 1 = ((k + 1 : Nat) : Int) := by omega
      have hlx : (p.map pairI).length = p.length := by simp
      have t1 := sl_to (xs := p.map pairI) (k := k) (by omega)
      have f2 := sl_from (xs := p.map pairI) (k := k + 1) (by omega)
      rw [← ek] at f2
      have ha := addT_ok (xs := (p.map pairI).take k) (ys := [d]) (by simp; omega)
      have hb := addT_ok (xs := (p.map pairI).take k ++ [d]) (ys := (p.map pairI).drop (k + 1)) (by simp; omega)
      refine ⟨_, _, μ', rfl, ev_app (ds := vs') (d := .tup ((p.map pairI).take k ++ [d] ++ (p.map pairI).drop (k + 1))) (μ' := μ') rfl ?_ (by omega), vs' ++ [.tup ((p.map pairI).take k ++ [d] ++ (p.map pairI).drop (k + 1))], .fz d, rfl, rfl, ?_, by simp; omega⟩
      · simp only [planD, ev_bin, ev_sl, ev_var, ev_oNone, ev_oSome, ev_tup, ev_lCons, ev_lNil, ev_C, List.set_cons_succ, List.set_cons_zero, List.getElem?_cons_succ, List.getElem?_cons_zero, slV_fz, ev_bind_ok, ev_addI, ev_ofO_some, t1, f2]
        show ((if lenOk [d] = true then Res.ok (D.tup [d]) μ' else .fail).bind _).bind _ = _
        have : lenOk [d] = true := rfl
        rw [if_pos this]
        simp only [ev_bind_ok, ha, hb, ev_ofO_some, f2]
      · rw [List.all_append, h1]
        show (((p.map pairI).take k ++ [d] ++ (p.map pairI).drop (k + 1)).all (D.pd 29) && true) = true
        rw [Bool.and_true]
        refine pd_all fun y hy => ?_
        rcases List.mem_append.mp hy with hy | hy
        · rcases List.mem_append.mp hy with hy | hy
          · exact pd_mono 2 29 y (by omega) (mem_pd hxs (List.mem_of_mem_take hy))
          · rw [List.mem_singleton.mp hy]; exact pd_mono 3 29 d (by omega) hdp
        · exact pd_mono 2 29 y (by omega) (mem_pd hxs (List.mem_of_mem_drop hy)))
  have hi11 : (oddsD l h).length = 11 := rfl
  exact ⟨vs', s6, e, h1, by omega⟩
theorem plan_sm (p : Plan) (hp : p.length ≤ 40) : smT 6 (planD p) := by
  refine ⟨by simp; omega, fun x hx => ?_⟩
  obtain ⟨y, _, rfl⟩ := List.mem_map.mp hx
  exact ⟨by simp [pairI], fun z hz => by
    simp only [List.mem_cons, List.not_mem_nil, or_false] at hz
    rcases hz with rfl | rfl <;> trivial⟩
theorem judged_spec {p : Plan} (hP : PlanOk p) {μ : Store} (hc : CupOk μ) : ∃ μ', g__law_judged [.own 0, planD p] μ = .ok (.bl true) μ' ∧ CupOk μ' := by
  have hle := hP.le
  have hpos := hP.pos
  have hxs : (p.map pairI).all (D.pd 2) = true := planD_pd p
  have el : lenD [planD p] = some (.int (p.length : Nat)) := by
    show some (D.int ((p.map pairI).length : Nat)) = _
    rw [List.length_map]
  obtain ⟨v, μ1, e1, c1, v0, v1⟩ := roll_spec (many := (p.length : Int)) hc (by omega) (by omega)
  obtain ⟨k, rfl⟩ := Int.eq_ofNat_of_zero_le v0
  have hk : k < p.length := by omega
  have hx := ix_plan (P := p) (k := k) (x := p[k]) (List.getElem?_eq_getElem hk) μ1
  generalize p[k] = x at hx
  obtain ⟨l, h⟩ := x
  have hlx : (p.map pairI).length = p.length := by simp
  have g1 := cutD_len' (p.map pairI) none (some (-1))
  have g2 := cutD_len' (p.map pairI) (some (-1)) none
  have s1 : slT (planD p) none (some (-1)) = some (.tup (cutD (p.map pairI) none (some (-1)))) := rfl
  have s2 : slT (planD p) (some (-1)) none = some (.tup (cutD (p.map pairI) (some (-1)) none)) := rfl
  have a1 : addD (planD p) (.tup (cutD (p.map pairI) (some (-1)) none)) = some (.tup (p.map pairI ++ cutD (p.map pairI) (some (-1)) none)) := addT_ok (by omega)
  have a2 : addD (planD p) (.tup [.tup [.int 41, .int 42]]) = some (.tup (p.map pairI ++ [.tup [.int 41, .int 42]])) := addT_ok (by simp; omega)
  have r1 : revTD (planD p) = some (.tup (p.map pairI).reverse) := rfl
  have l1 : listD [planD p] = some (.lst (p.map pairI)) := rfl
  obtain ⟨ms, hm, hms⟩ : ∃ ms : List D, mulT (.tup [.tup [.int (-1), .int 0]]) (.int 41) = some (.tup ms) ∧ D.pd 30 (.tup ms) = true := ⟨_, rfl, rfl⟩
  -- the first ten, the next four
  obtain ⟨va, hva⟩ : ∃ va : List D, va = [planD p, .tup (p.map pairI).reverse, .lst (p.map pairI), .tup (cutD (p.map pairI) none (some (-1))), .tup (p.map pairI ++ cutD (p.map pairI) (some (-1)) none), .tup (p.map pairI ++ [.tup [.int 41, .int 42]]), .non, .tup [], .int 5, .str "plan"] := ⟨_, rfl⟩
  obtain ⟨vb, hvb⟩ : ∃ vb : List D, vb = [.tup [.tup [.int (-1), .int 0]], .tup [.tup [.int 40, .int 41]], .tup [.tup [.int (-2), .int (-1)]], .tup ms] := ⟨_, rfl⟩
  have lva : va.length = 10 := by rw [hva]; rfl
  have lvb : vb.length = 4 := by rw [hvb]; rfl
  have pxs : ∀ ys : List D, (∀ y, y ∈ ys → y ∈ p.map pairI ∨ D.pd 3 y = true) → D.pd 30 (.tup ys) = true := fun ys hy => pd_all fun y h => (hy y h).elim (fun z => pd_mono 2 29 y (by omega) (mem_pd hxs z)) fun z => pd_mono 3 29 y (by omega) z
  have pva : va.all (D.pd 30) = true := by
    refine pd_all fun y hy => ?_
    rw [hva] at hy
    simp only [List.mem_cons, List.not_mem_nil, or_false] at hy
    rcases hy with rfl | rfl | rfl | rfl | rfl | rfl | rfl | rfl | rfl | rfl
    · exact pxs _ fun y hy => .inl hy
    · exact pxs _ fun y hy => .inl (List.mem_reverse.mp hy)
    · exact pxs _ fun y hy => .inl hy
    · exact pxs _ fun y hy => .inl (cutD_mem hy)
    · exact pxs _ fun y hy => .inl ((List.mem_append.mp hy).elim id cutD_mem)
    · exact pxs _ fun y hy => (List.mem_append.mp hy).elim .inl fun z => .inr (by rw [List.mem_singleton.mp z]; rfl)
    · rfl
    · rfl
    · rfl
    · rfl
  have pvb : vb.all (D.pd 30) = true := by
    rw [hvb]
    show (true && (true && (true && (D.pd 30 (.tup ms) && true)))) = true
    rw [hms]; rfl
  have ab := addL_lst (xs := va) (ys := vb) (by omega)
  have pvab : (va ++ vb).all (D.pd 30) = true := by rw [List.all_append, pva, pvb]; rfl
  obtain ⟨vs, s6, e2, pvs, lvs⟩ := judged_loop (p := p) hle hk (l := l) (h := h) (vs := va ++ vb) (μ := μ1) pvab (by simp; omega)
  obtain ⟨d1, μ2, e3, c2, p1⟩ := bent_spec 6 (planD p) μ1 (by omega) (pd_mono 3 6 _ (by omega) (planD_pd p)) (plan_sm p hle) c1
  obtain ⟨d2, μ3, e4, c3, p2⟩ := bent_spec 6 (planD p) μ2 (by omega) (pd_mono 3 6 _ (by omega) (planD_pd p)) (plan_sm p hle) c2
  have ac := addL_lst (xs := vs) (ys := [d1, d2]) (by simp; omega)
  have hfin := judged_c (v0 := .fz (.own 0)) (v1 := .fz (planD p)) (s2 := .fz (.int (k : Nat))) (s3 := .fz (.int l)) (s4 := .fz (.int h)) (s6 := s6) (vs := vs ++ [d1, d2]) (μ := μ3) (by
    rw [List.all_append, pvs]
    show (D.pd 30 d1 && (D.pd 30 d2 && true)) = true
    rw [pd_mono 9 30 d1 (by omega) p1, pd_mono 9 30 d2 (by omega) p2]; rfl) (by simp; omega)
  refine ⟨μ3, ?_, c3⟩
  unfold g__law_judged F__law_judged
  simp only [oddsD] at e2
  have hva1 : va.length ≤ 1000000 := by omega
  have hvb1 : vb.length ≤ 1000000 := by omega
  simp [el, e1, hx, pairI, r1, l1, s1, s2, a1, a2, ← hva, hva1]
  simp [frzE, hm, ← hvb, hvb1, ab]
  simp [e2]
  simp [frzE, e3, e4, ac]
  simp [frzE, hfin]
end K75
set_option Elab.async false
set_option linter.all false
set_option maxRecDepth 100000
set_option maxHeartbeats 2000000
namespace K75
open PySem DC
/-! ### binomials -/
def ch : Nat → Nat → Nat
  | _, 0 => 1
  | 0, _ + 1 => 0
  | n + 1, k + 1 => ch n k + ch n (k + 1)
theorem ch_big : ∀ (n k : Nat), n < k → ch n k = 0
  | 0, k + 1, _ => rfl
  | n + 1, k + 1, h => by
    show ch n k + ch n (k + 1) = 0
    rw [ch_big n k (by omega), ch_big n (k + 1) (by omega)]
theorem ch_zero (n : Nat) : ch n 0 = 1 := by cases n <;> rfl
theorem ch_pos : ∀ (n k : Nat), k ≤ n → 0 < ch n k
  | n, 0, _ => by rw [ch_zero]; decide
  | n + 1, k + 1, h => by
    show 0 < ch n k + ch n (k + 1)
    have := ch_pos n k (by omega)
    omega
theorem ch_absorb : ∀ (n k : Nat), ch (n + 1) (k + 1) * (k + 1) = (n + 1) * ch n k
  | 0, 0 => rfl
  | 0, k + 1 => by
    show (ch 0 (k + 1) + ch 0 (k + 2)) * (k + 2) = 1 * ch 0 (k + 1)
    simp [ch]
  | n + 1, 0 => by
    have ih := ch_absorb n 0
    rw [ch_zero] at ih
    rw [ch_zero]
    show (ch (n + 1) 0 + ch (n + 1) 1) * 1 = (n + 2) * 1
    rw [ch_zero]
    simp only [Nat.zero_add] at ih
    omega
  | n + 1, k + 1 => by
    have i1 := ch_absorb n k
    have i2 := ch_absorb n (k + 1)
    show (ch (n + 1) (k + 1) + ch (n + 1) (k + 2)) * (k + 2) = (n + 2) * ch (n + 1) (k + 1)
    have e : ch (n + 1) (k + 1) = ch n k + ch n (k + 1) := rfl
    have h1 : ch (n + 1) (k + 1) * (k + 2) = ch (n + 1) (k + 1) * (k + 1) + ch (n + 1) (k + 1) := by rw [show k + 2 = (k + 1) + 1 by omega, Nat.mul_succ]
    have h2 : (n + 2) * ch (n + 1) (k + 1) = (n + 1) * ch (n + 1) (k + 1) + ch (n + 1) (k + 1) := by rw [show n + 2 = (n + 1) + 1 by omega, Nat.succ_mul]
    rw [Nat.add_mul, h1, i1, h2]
    have h3 : ch (n + 1) (k + 2) * (k + 2) = (n + 1) * ch n (k + 1) := i2
    rw [h3]
    have h4 : (n + 1) * ch (n + 1) (k + 1) = (n + 1) * ch n k + (n + 1) * ch n (k + 1) := by rw [e, Nat.mul_add]
    rw [h4]
    omega
theorem ch_step {n k : Nat} (h : k ≤ n) : ch n (k + 1) * (k + 1) = ch n k * (n - k) := by
  have h1 := ch_absorb n k
  have e : ch (n + 1) (k + 1) = ch n k + ch n (k + 1) := rfl
  rw [e, Nat.add_mul] at h1
  obtain ⟨j, rfl⟩ := Nat.exists_eq_add_of_le h
  rw [show k + j - k = j by omega]
  have h2 : (k + j + 1) * ch (k + j) k = ch (k + j) k * (k + 1) + ch (k + j) k * j := by
    rw [Nat.mul_comm, show k + j + 1 = (k + 1) + j by omega, Nat.mul_add]
  omega
theorem ways_loop {n : Nat} (hn : n ≤ 1000) {s1 : Sl} {μ : Store} : ∀ (m k : Nat) (s3 : Sl), k + m ≤ n → ∃ s3', sForL (gN 3) L__law_ways_1 (rngI (k : Nat) m) [.fz (.int (n : Nat)), s1, .fz (.int (ch n k : Nat)), s3] μ = .nx [.fz (.int (n : Nat)), s1, .fz (.int (ch n (k + m) : Nat)), s3'] μ
  | 0, k, s3, _ => ⟨s3, rfl⟩
  | m + 1, k, s3, h => by
    obtain ⟨s3', e⟩ := ways_loop hn (s1 := s1) (μ := μ) m (k + 1) (.fz (.int (k : Nat))) (by omega)
    refine ⟨s3', ?_⟩
    have hm := ev_mul (i := (ch n k : Nat)) (j := (n : Int) - (k : Nat)) (mulOk_r (by omega))
    have hd := ev_div (i := ((ch n k : Nat) : Int) * ((n : Int) - (k : Nat))) (j := (k : Int) + 1) (by omega) (by omega)
    have hq : ((ch n k : Nat) : Int) * ((n : Int) - (k : Nat)) / ((k : Int) + 1) = ((ch n (k + 1) : Nat) : Int) := by
      have hs := ch_step (n := n) (k := k) (by omega)
      have e1 : ((n : Int) - (k : Nat)) = ((n - k : Nat) : Int) := by omega
      have e2 : ((k : Int) + 1) = ((k + 1 : Nat) : Int) := by omega
      rw [e1, e2, ← Int.natCast_mul, ← hs, Int.natCast_mul]
      exact Int.mul_ediv_cancel _ (by omega)
    rw [hq] at hd
    have ek : ((k : Nat) : Int) + 1 = ((k + 1 : Nat) : Int) := by omega
    show sForL _ _ (.int (k : Nat) :: rngI ((k : Nat) + 1) m) _ μ = _
    rw [forL_cons (ρ1 := [.fz (.int (n : Nat)), s1, .fz (.int (ch n k : Nat)), .fz (.int (k : Nat))]) (ρ2 := [.fz (.int (n : Nat)), s1, .fz (.int (ch n (k + 1) : Nat)), .fz (.int (k : Nat))]) (μ2 := μ) rfl (by simp [hm, hd]), ek, e]
    rw [show k + 1 + m = k + (m + 1) by omega]
theorem ways_spec {n k : Nat} (hn : n ≤ 1000) (hk : k ≤ n) (μ : Store) : g__law_ways [.int (n : Nat), .int (k : Nat)] μ = .ok (.int (ch n k : Nat)) μ := by
  obtain ⟨s3', e⟩ := ways_loop hn (s1 := .fz (.int (k : Nat))) (μ := μ) k 0 .no (by omega)
  rw [ch_zero, Nat.zero_add] at e
  have hr := rgOk_int (i := (k : Nat)) (by omega) (by omega)
  have z0 : ((0 : Nat) : Int) = 0 := rfl
  have z1 : ((1 : Nat) : Int) = 1 := rfl
  rw [z0, z1] at e
  have hs : iRg1 (lCons (xVar 1) lNil) [.fz (.int (n : Nat)), .fz (.int (k : Nat)), .fz (.int 1), .no] μ = .ok (rngI 0 k) μ := by
    unfold iRg1
    simp [hr, rangeD_rng]
  have hle : (k : Int) ≤ (n : Int) := by omega
  unfold g__law_ways F__law_ways
  simp [hs, e, hk]
/-! ### Pascal's rows -/
def pas (n : Nat) : List Int := (List.range (n + 1)).map fun k => ((ch n k : Nat) : Int)
theorem pas_len (n : Nat) : (pas n).length = n + 1 := by unfold pas; simp
theorem pas_get (n i : Nat) : (pas n)[i]? = if i ≤ n then some ((ch n i : Nat) : Int) else none := by
  unfold pas
  rw [List.getElem?_map]
  by_cases h : i ≤ n
  · rw [List.getElem?_range (by omega), if_pos h]; rfl
  · rw [List.getElem?_eq_none (by simp; omega), if_neg h]; rfl
theorem step_pas (n : Nat) : stepH (pas n) = pas (n + 1) := by
  apply List.ext_getElem?
  intro i
  unfold stepH
  rw [List.getElem?_zipWith, pas_get]
  by_cases h : i ≤ n + 1
  · rw [if_pos h]
    have e1 : (pas n ++ [0])[i]? = some ((ch n i : Nat) : Int) := by
      by_cases h2 : i ≤ n
      · rw [List.getElem?_append_left (by rw [pas_len]; omega), pas_get, if_pos h2]
      · have : i = n + 1 := by omega
        subst this
        rw [List.getElem?_append_right (by rw [pas_len]; omega), pas_len, Nat.sub_self, ch_big n (n + 1) (by omega)]
        rfl
    rw [e1]
    cases i with
    | zero =>
      show some (((ch n 0 : Nat) : Int) + 0) = some ((ch (n + 1) 0 : Nat) : Int)
      rw [ch_zero, ch_zero]; rfl
    | succ j =>
      have e2 : (0 :: pas n)[j + 1]? = some ((ch n j : Nat) : Int) := by
        rw [List.getElem?_cons_succ, pas_get, if_pos (by omega)]
      rw [e2]
      show some (((ch n (j + 1) : Nat) : Int) + ((ch n j : Nat) : Int)) = some ((ch n j + ch n (j + 1) : Nat) : Int)
      congr 1
      omega
  · rw [if_neg h, List.getElem?_eq_none (by simp [pas_len]; omega)]
end K75
set_option Elab.async false
set_option linter.all false
set_option maxRecDepth 100000
set_option maxHeartbeats 2000000
namespace K75
open PySem DC
/-! ### the last plan -/
def flatP (m : Nat) (a : Int) : Plan := List.replicate m ((-1 : Int), (41 : Int)) ++ [(a - 1, a)]
theorem flatP_len (m : Nat) (a : Int) : (flatP m a).length = m + 1 := by unfold flatP; simp
theorem flatP_ok {m : Nat} {a : Int} (hm : m ≤ 39) (h0 : 0 ≤ a) (h1 : a ≤ 41) : PlanOk (flatP m a) where
  pos := by rw [flatP_len]; omega
  le := by rw [flatP_len]; omega
  ok := fun x hx => by
    unfold flatP at hx
    rcases List.mem_append.mp hx with h | h
    · rw [List.eq_of_mem_replicate h]
      refine ⟨?_, ?_, ?_⟩ <;> decide
    · rw [List.mem_singleton.mp h]
      refine ⟨?_, ?_, ?_⟩ <;> simp <;> omega
  last := fun x hx => by
    unfold flatP at hx
    rw [List.getLast?_append] at hx
    simp at hx
    subst hx
    simp
theorem mapIdx_same {f : Nat → Int → Int} {a : List Int} (h : ∀ i x, a[i]? = some x → f i x = x) : a.mapIdx f = a := by
  apply List.ext_getElem?
  intro i
  rw [List.getElem?_mapIdx]
  cases hx : a[i]? with
  | none => rfl
  | some x => exact congrArg some (h i x hx)
theorem open_wide {n : Nat} (hn : n ≤ 40) : openL (-1) 41 (pas n) = pas n := mapIdx_same fun i x hx => by
  have hi : i ≤ n := by
    rw [pas_get] at hx
    by_cases h : i ≤ n
    · exact h
    · rw [if_neg h] at hx; cases hx
  have hb : inB (-1) 41 i = true := by
    unfold inB
    simp
    omega
  rw [hb]; rfl
theorem end_wide {n : Nat} (hn : n ≤ 40) : ∀ x, x ∈ endL (-1) 41 (pas n) → x = 0 := fun x hx => by
  unfold endL at hx
  rw [List.mem_mapIdx] at hx
  obtain ⟨i, hi, e⟩ := hx
  have hl : i < n + 1 := by rw [pas_len] at hi; exact hi
  have hb : inB (-1) 41 i = true := by
    unfold inB
    simp
    omega
  rw [hb] at e
  exact e.symm
theorem end_last (a : Int) (l : List Int) : endL (a - 1) a l = l := mapIdx_same fun i x _ => by
  have hb : inB (a - 1) a i = false := by
    unfold inB
    simp
    omega
  rw [hb]; rfl
theorem enumI_mem {a : List Int} {e : Nat × Int} (h : e ∈ enumI a) : e.2 ∈ a := by
  unfold enumI at h
  rw [List.mem_mapIdx] at h
  obtain ⟨i, hi, rfl⟩ := h
  exact List.getElem_mem hi
theorem rowPts_zero {k : Nat} {a : List Int} (h : ∀ x, x ∈ a → x = 0) : rowPts k a = [] := by
  unfold rowPts
  have : (enumI a).filter (fun e => decide (0 < e.2)) = [] := by
    rw [List.filter_eq_nil_iff]
    intro e he
    have := h _ (enumI_mem he)
    simp
    omega
  rw [this]
  rfl
theorem flat_pts (a : Int) : ∀ m n, n + m ≤ 39 → ptsT n (endsT (flatP m a) (pas n)) = rowPts (n + m) (pas (n + m + 1))
  | 0, n, h => by
    show rowPts n (endL (a - 1) a (stepH (pas n))) ++ [] = _
    rw [end_last, step_pas, List.append_nil]
    rfl
  | m + 1, n, h => by
    show rowPts n (endL (-1) 41 (stepH (pas n))) ++ ptsT (n + 1) (endsT (flatP m a) (openL (-1) 41 (stepH (pas n)))) = _
    rw [step_pas, rowPts_zero (end_wide (by omega)), open_wide (by omega), List.nil_append, flat_pts a m (n + 1) (by omega)]
    rw [show n + 1 + m = n + (m + 1) by omega]
theorem pts_pas (k n : Nat) : rowPts k (pas n) = (List.range (n + 1)).map fun (u : Nat) => ((k : Int) + 1, (u : Int), ((ch n u : Nat) : Int)) := by
  have e : enumI (pas n) = (List.range (n + 1)).map fun (u : Nat) => (u, ((ch n u : Nat) : Int)) := by
    unfold enumI pas
    apply List.ext_getElem?
    intro i
    rw [List.getElem?_mapIdx, List.getElem?_map, List.getElem?_map]
    by_cases h : i < n + 1
    · rw [List.getElem?_range h]; rfl
    · rw [List.getElem?_eq_none (by simp; omega)]; rfl
  unfold rowPts
  rw [e, List.filter_eq_self.mpr ?_, List.map_map]
  · rfl
  · intro x hx
    obtain ⟨u, hu, rfl⟩ := List.mem_map.mp hx
    have := ch_pos n u (by have := List.mem_range.mp hu; omega)
    simp
    omega
def wayF (n : Nat) : D → D
  | .int u => .tup [.int (n : Nat), .int u, .int (ch n u.toNat : Nat)]
  | _ => .non
theorem law_c3 {n : Nat} (hn : n ≤ 41) {s0 s1 s2 s3 s4 s5 s6 s8 s9 : Sl} {μ : Store} :
    C_law_3 [s0, s1, s2, s3, s4, s5, s6, .fz (.int (n : Nat)), s8, .no] μ = .ok (.lst (((List.range (n + 1)).map fun (u : Nat) => ((n : Int), (u : Int), ((ch n u : Nat) : Int))).map pt3)) μ := by
  have hr := rgOk_int (i := (n : Nat) + 1) (by omega) (by omega)
  have hs : iRg1 (lCons (xBin addD (xVar 7) (xC (.int 1))) lNil) [s0, s1, s2, s3, s4, s5, s6, .fz (.int (n : Nat)), s8, .no] μ = .ok (rangeD 0 (n + 1)) μ := by
    unfold iRg1
    simp [hr]
  refine (ev_lcT (h := wayF n) (ds := rangeD 0 (n + 1)) (μ' := μ) hs rfl (by unfold rangeD; simp; omega) fun d hd => ?_).trans ?_
  · unfold rangeD at hd
    obtain ⟨u, hu, rfl⟩ := List.mem_map.mp hd
    have hu := List.mem_range.mp hu
    rw [show (0 : Int) + (u : Nat) = (u : Nat) by omega]
    have hw := ways_spec (n := n) (k := u) (by omega) (by omega) μ
    exact ⟨_, rfl, by simp [wipeE, hw, wayF]⟩
  · unfold rangeD
    rw [List.map_map, List.map_map]
    congr 2
    apply List.map_congr_left
    intro u _
    show wayF n (.int (0 + (u : Nat))) = _
    rw [show (0 : Int) + (u : Nat) = (u : Nat) by omega]
    rfl
theorem flatP_D (m : Nat) (a : Int) : planD (flatP m a) = .tup (List.replicate m (pairI (-1, 41)) ++ [pairI (a - 1, a)]) := by
  unfold planD flatP
  rw [List.map_append, List.map_replicate]
  rfl
theorem mul_flat {m : Nat} (h : m ≤ 1000) (x : D) : mulT (.tup [x]) (.int (m : Nat)) = some (.tup (List.replicate m x)) := by
  have e : (List.replicate ((m : Int)).toNat [x]).flatten = List.replicate m x := by
    rw [Int.toNat_natCast]
    clear h
    induction m with
    | zero => rfl
    | succ m ih => rw [List.replicate_succ, List.flatten_cons, ih]; rfl
  have c : (decide (-1000 ≤ (m : Int)) && decide ((m : Int) ≤ 1000) && Nat.ble [x].length 1000) = true := by
    have h1 : -1000 ≤ (m : Int) := by omega
    have h2 : (m : Int) ≤ 1000 := by omega
    rw [decide_eq_true h1, decide_eq_true h2]
    rfl
  show (if (decide (-1000 ≤ (m : Int)) && decide ((m : Int) ≤ 1000) && Nat.ble [x].length 1000) = true then some (D.tup (List.replicate ((m : Int)).toNat [x]).flatten) else none) = _
  rw [if_pos c, e]
/-- the end of the law: the plan that stays open, then ends -/
def lastPart : SD := (sSeq (sAsg 7 (xBin addD (xC (.int 1)) (xCall g__law_roll (lCons (xVar 1) (lCons (xC (.int 40)) lNil)))))
    (sSeq (sAsg 8 (xCall g__law_roll (lCons (xVar 1) (lCons (xBin addD (xVar 7) (xC (.int 1))) lNil))))
    (sSeq (sAsg 5 (xBin addD (xBin mulT (xTup (lCons (xTup (lCons (xUn negD (xC (.int 1))) (lCons (xC (.int 41)) lNil))) lNil)) (xBin subD (xVar 7) (xC (.int 1)))) (xTup (lCons (xTup (lCons (xBin subD (xVar 8) (xC (.int 1))) (lCons (xVar 8) lNil))) lNil))))
    (sRet (xCall (g__law_like 12) (lCons (xCall g_end_points (lCons (xVar 5) lNil)) (lCons (xCb tupleD (lCons C_law_3 lNil)) lNil)))))))
theorem last_part {s0 s2 s3 s4 s5 s6 : Sl} {μ : Store} (hc : CupOk μ) : ∃ μ', lastPart [s0, .fz (.own 0), s2, s3, s4, s5, s6, .no, .no, .no] μ = .rt (.bl true) μ' := by
  obtain ⟨v, μ1, e1, c1, v0, v1⟩ := roll_spec (many := 40) hc (by decide) (by decide)
  obtain ⟨m, rfl⟩ := Int.eq_ofNat_of_zero_le v0
  have ea : (1 : Int) + (m : Nat) = ((m + 1 : Nat) : Int) := by omega
  obtain ⟨a, μ2, e2, c2, a0, a1⟩ := roll_spec (many := ((m + 1 : Nat) : Int) + 1) c1 (by omega) (by omega)
  have es : ((m + 1 : Nat) : Int) - 1 = (m : Nat) := by omega
  have hP := flatP_ok (m := m) (a := a) (by omega) a0 (by omega)
  have hep := end_points_spec hP μ2
  have e1' : ([1] : List Int) = pas 0 := rfl
  rw [e1', flat_pts a m 0 (by omega), pts_pas, Nat.zero_add] at hep
  have hc3 := law_c3 (n := m + 1) (by omega) (s0 := s0) (s1 := .fz (.own 0)) (s2 := s2) (s3 := s3) (s4 := s4) (s5 := .fz (planD (flatP m a))) (s6 := s6) (s8 := .fz (.int a)) (s9 := .no) (μ := μ2)
  have em : ((m + 1 : Nat) : Int) = (m : Int) + 1 := by omega
  have eq : (List.range (m + 1 + 1)).map (fun (u : Nat) => (((m + 1 : Nat) : Int), (u : Int), ((ch (m + 1) u : Nat) : Int))) = (List.range (m + 1 + 1)).map fun (u : Nat) => ((m : Int) + 1, (u : Int), ((ch (m + 1) u : Nat) : Int)) := by rw [em]
  rw [eq] at hc3
  generalize hg : (List.range (m + 1 + 1)).map (fun (u : Nat) => ((m : Int) + 1, (u : Int), ((ch (m + 1) u : Nat) : Int))) = L at hep hc3
  have hpd : D.pd 12 (.tup (L.map pt3)) = true := by
    show (L.map pt3).all (D.pd 11) = true
    rw [List.all_eq_true]
    intro x hx
    obtain ⟨t, _, rfl⟩ := List.mem_map.mp hx
    rfl
  have hlb : lenB 12 (.tup (L.map pt3)) = true := by
    have hl : (L.map pt3).length ≤ 1000000 := by rw [List.length_map, ← hg]; simp; omega
    show (decide ((L.map pt3).length ≤ 1000000) && (L.map pt3).all (lenB 11)) = true
    rw [decide_eq_true hl, Bool.true_and, List.all_eq_true]
    intro x hx
    obtain ⟨t, _, rfl⟩ := List.mem_map.mp hx
    rfl
  have hlike := like12 μ2 hpd hlb
  have hmul := mul_flat (m := m) (by omega) (pairI (-1, 41))
  have hadd := addT_ok (xs := List.replicate m (pairI (-1, 41))) (ys := [pairI (a - 1, a)]) (by simp; omega)
  rw [← flatP_D] at hadd
  refine ⟨μ2, ?_⟩
  have hmul' : mulT (.tup [.tup [.int (-1), .int 41]]) (.int (m : Nat)) = some (.tup (List.replicate m (pairI (-1, 41)))) := hmul
  have hadd' : addD (.tup (List.replicate m (pairI (-1, 41)))) (.tup [.tup [.int (a - 1), .int a]]) = some (.tup (List.replicate m (pairI (-1, 41)) ++ [pairI (a - 1, a)])) := by rw [← flatP_D]; exact hadd
  unfold lastPart
  simp only [ev_seq, ev_asg, ev_bin, ev_C, ev_call, ev_lCons, ev_lNil, ev_var, slV_fz, ev_bind_ok, List.getElem?_cons_succ, List.getElem?_cons_zero, e1, ev_st_ok, ev_addI, ev_ofO_some, seq_nx, List.set_cons_succ, List.set_cons_zero, ea, e2, ev_subI, es]
  rw [em] at hc3
  simp [es, hmul', hadd', ← flatP_D, hep, hc3, tupleD, hlike]
end K75
set_option Elab.async false
set_option linter.all false
set_option maxRecDepth 100000
set_option maxHeartbeats 2000000
namespace K75
open PySem DC
/-! ### _law_rows -/
def allR : Nat → List (List Bool)
  | 0 => [[]]
  | m + 1 => (allR m).flatMap fun r => [r ++ [false], r ++ [true]]
theorem allR_len : ∀ m, (allR m).length = 2 ^ m
  | 0 => rfl
  | m + 1 => by
    show ((allR m).flatMap fun r => [r ++ [false], r ++ [true]]).length = _
    rw [List.length_flatMap]
    have : ∀ l : List (List Bool), (l.map fun r => [r ++ [false], r ++ [true]].length).sum = 2 * l.length := by
      intro l
      induction l with
      | nil => rfl
      | cons x l ih => rw [List.map_cons, List.sum_cons, ih, List.length_cons]; simp; omega
    rw [this, allR_len m, Nat.pow_succ]
    omega
theorem allR_mem : ∀ m r, r ∈ allR m → r.length = m
  | 0, r, h => by rw [List.mem_singleton.mp h]; rfl
  | m + 1, r, h => by
    obtain ⟨s, hs, hr⟩ := List.mem_flatMap.mp h
    have := allR_mem m s hs
    simp at hr
    rcases hr with rfl | rfl <;> simp [this]
abbrev rowD (r : List Bool) : D := .str (rowS r)
theorem rows_in {s0 s1 s2 : Sl} {μ : Store} : ∀ (rs : List (List Bool)) (ds : List D) (s4 : Sl), (∀ r, r ∈ rs → r.length ≤ 1000) → ds.length + 2 * rs.length ≤ 1000000 → ∃ s4',
    sForL (gN 4) L__law_rows_1 (rs.map rowD) [s0, s1, s2, .ow (.lst ds), s4] μ = .nx [s0, s1, s2, .ow (.lst (ds ++ (rs.flatMap fun r => [r ++ [false], r ++ [true]]).map rowD)), s4'] μ
  | [], ds, s4, _, _ => ⟨s4, by simp⟩
  | r :: rs, ds, s4, hr, hl => by
    simp only [List.length_cons] at hl
    have h1 := hr r (by simp)
    obtain ⟨s4', e⟩ := rows_in (s0 := s0) (s1 := s1) (s2 := s2) (μ := μ) rs (ds ++ [rowD (r ++ [false])] ++ [rowD (r ++ [true])]) (.fz (rowD r)) (fun x hx => hr x (List.mem_cons_of_mem _ hx)) (by simp; omega)
    refine ⟨s4', ?_⟩
    have ad : addD (rowD r) (.str "d") = some (rowD (r ++ [false])) := by rw [rowS_d]; exact add_row (by simp; omega)
    have au : addD (rowD r) (.str "u") = some (rowD (r ++ [true])) := by rw [rowS_u]; exact add_row (by simp; omega)
    have e1 := ev_app (ρ := [s0, s1, s2, .ow (.lst ds), .fz (rowD r)]) (μ := μ) (i := 3) (f := xBin addD (xVar 4) (xC (.str "d"))) (ds := ds) (d := rowD (r ++ [false])) (μ' := μ) rfl (by simp [ad]) (by omega)
    have e2 := ev_app (ρ := [s0, s1, s2, .ow (.lst (ds ++ [rowD (r ++ [false])])), .fz (rowD r)]) (μ := μ) (i := 3) (f := xBin addD (xVar 4) (xC (.str "u"))) (ds := ds ++ [rowD (r ++ [false])]) (d := rowD (r ++ [true])) (μ' := μ) rfl (by simp [au]) (by simp; omega)
    rw [List.map_cons, forL_cons (ρ1 := [s0, s1, s2, .ow (.lst ds), .fz (rowD r)]) (ρ2 := [s0, s1, s2, .ow (.lst (ds ++ [rowD (r ++ [false])] ++ [rowD (r ++ [true])])), .fz (rowD r)]) (μ2 := μ) rfl (by simp only [ev_seq, e1, e2, seq_nx, List.set_cons_succ, List.set_cons_zero]), e]
    simp
theorem rows_loop {s0 : Sl} {μ : Store} : ∀ (n lo k : Nat) (s2 s3 s4 : Sl), k + n ≤ 10 → ∃ s2' s3' s4',
    sForL (gN 2) L__law_rows_2 (rngI (lo : Nat) n) [s0, .fz (.lst ((allR k).map rowD)), s2, s3, s4] μ = .nx [s0, .fz (.lst ((allR (k + n)).map rowD)), s2', s3', s4'] μ
  | 0, lo, k, s2, s3, s4, _ => ⟨s2, s3, s4, rfl⟩
  | n + 1, lo, k, s2, s3, s4, h => by
    have h2 : 2 ^ k ≤ 2 ^ 10 := Nat.pow_le_pow_right (by decide) (by omega)
    have hl := allR_len k
    obtain ⟨x4, e⟩ := rows_in (s0 := s0) (s1 := .fz (.lst ((allR k).map rowD))) (s2 := .fz (.int (lo : Nat))) (μ := μ) (allR k) [] s4 (fun r hr => by rw [allR_mem k r hr]; omega) (by simp; omega)
    obtain ⟨s2', s3', s4', e2⟩ := rows_loop (s0 := s0) (μ := μ) n (lo + 1) (k + 1) (.fz (.int (lo : Nat))) (.fz (.lst ((allR (k + 1)).map rowD))) x4 (by omega)
    refine ⟨s2', s3', s4', ?_⟩
    have ek : ((lo : Nat) : Int) + 1 = ((lo + 1 : Nat) : Int) := by omega
    show sForL _ _ (.int (lo : Nat) :: rngI ((lo : Nat) + 1) n) _ μ = _
    rw [List.nil_append] at e
    have e' : ∀ ρ, ρ = [s0, .fz (.lst ((allR k).map rowD)), .fz (.int (lo : Nat)), .ow (.lst []), s4] → sForL (gN 4) L__law_rows_1 ((allR k).map rowD) ρ μ = .nx [s0, .fz (.lst ((allR k).map rowD)), .fz (.int (lo : Nat)), .ow (.lst ((allR (k + 1)).map rowD)), x4] μ := fun ρ h => by rw [h]; exact e
    rw [forL_cons (ρ1 := [s0, .fz (.lst ((allR k).map rowD)), .fz (.int (lo : Nat)), s3, s4]) (ρ2 := [s0, .fz (.lst ((allR (k + 1)).map rowD)), .fz (.int (lo : Nat)), .fz (.lst ((allR (k + 1)).map rowD)), x4]) (μ2 := μ) rfl ?_, ek, e2]
    · rw [show k + 1 + n = k + (n + 1) by omega]
    · simp [e', frzE]
theorem rows_spec {n : Nat} (hn : n ≤ 10) (μ : Store) : g__law_rows [.int (n : Nat)] μ = .ok (.lst ((allR n).map rowD)) μ := by
  obtain ⟨s2', s3', s4', e⟩ := rows_loop (s0 := .fz (.int (n : Nat))) (μ := μ) n 0 0 .no .no .no (by omega)
  have hr := rgOk_int (i := (n : Nat)) (by omega) (by omega)
  have z0 : ((0 : Nat) : Int) = 0 := rfl
  have z1 : (allR 0).map rowD = [.str ""] := by rw [rowS_nil]; rfl
  rw [z0, z1, Nat.zero_add] at e
  have hs : iRg1 (lCons (xVar 0) lNil) [.fz (.int (n : Nat)), .fz (.lst [.str ""]), .no, .no, .no] μ = .ok (rngI 0 n) μ := by
    unfold iRg1
    simp [hr, rangeD_rng]
  unfold g__law_rows F__law_rows
  simp [hs, e]
/-! ### dicts with keys of two ints -/
abbrev Bag := List ((Int × Int) × Int)
abbrev key2 (k : Int × Int) : List L2.Key := [.inl k.1, .inl k.2]
theorem key2_inj {a b : Int × Int} (h : key2 a = key2 b) : a = b := by
  unfold key2 at h
  simp at h
  exact Prod.ext h.1 h.2
def dtD (m : Bag) : D := .dt (m.map fun e => key2 e.1) (m.map fun e => .int e.2)
def getP : Bag → Int × Int → Option Int
  | [], _ => none
  | (k, v) :: m, j => if k = j then some v else getP m j
def putP (m : Bag) (j : Int × Int) (v : Int) : Bag := if j ∈ m.map Prod.fst then m.map (fun e => if e.1 = j then (e.1, v) else e) else m ++ [(j, v)]
theorem look_dt : ∀ (m : Bag) (j : Int × Int), lookD (m.map fun e => key2 e.1) (m.map fun e => D.int e.2) (key2 j) = (getP m j).map D.int
  | [], _ => rfl
  | (k, v) :: m, j => by
    show (if key2 k = key2 j then some (D.int v) else lookD (m.map fun e => key2 e.1) (m.map fun e => D.int e.2) (key2 j)) = (if k = j then some v else getP m j).map D.int
    by_cases h : k = j
    · rw [if_pos (by rw [h]), if_pos h]; rfl
    · rw [if_neg (fun z => h (key2_inj z)), if_neg h, look_dt m j]
theorem putVs_dt : ∀ (m : Bag) (j : Int × Int) (v : Int), putVs (m.map fun e => key2 e.1) (m.map fun e => D.int e.2) (key2 j) (.int v) = (m.map fun e => if e.1 = j then (e.1, v) else e).map fun e => D.int e.2
  | [], _, _ => rfl
  | (k, w) :: m, j, v => by
    show (if key2 k = key2 j then D.int v :: putVs (m.map fun e => key2 e.1) (m.map fun e => D.int e.2) (key2 j) (.int v) else D.int w :: putVs (m.map fun e => key2 e.1) (m.map fun e => D.int e.2) (key2 j) (.int v)) = D.int (if k = j then (k, v) else (k, w)).2 :: _
    rw [putVs_dt m j v]
    by_cases h : k = j
    · rw [if_pos (by rw [h]), if_pos h]
    · rw [if_neg (fun z => h (key2_inj z)), if_neg h]
theorem put_dt (m : Bag) (j : Int × Int) (v : Int) : D.dt (putD (m.map fun e => key2 e.1) (m.map fun e => D.int e.2) (key2 j) (.int v)).1 (putD (m.map fun e => key2 e.1) (m.map fun e => D.int e.2) (key2 j) (.int v)).2 = dtD (putP m j v) := by
  have hm : key2 j ∈ (m.map fun e => key2 e.1) ↔ j ∈ m.map Prod.fst := by
    rw [List.mem_map, List.mem_map]
    constructor
    · rintro ⟨e, h1, h2⟩; exact ⟨e, h1, key2_inj h2⟩
    · rintro ⟨e, h1, h2⟩; exact ⟨e, h1, by rw [h2]⟩
  unfold putD putP dtD
  by_cases h : j ∈ m.map Prod.fst
  · rw [if_pos (hm.mpr h), if_pos h, putVs_dt]
    have : (m.map fun e => if e.1 = j then (e.1, v) else e).map (fun e => key2 e.1) = m.map fun e => key2 e.1 := by
      rw [List.map_map]
      apply List.map_congr_left
      intro e _
      show key2 (if e.1 = j then (e.1, v) else e).1 = key2 e.1
      split <;> rfl
    rw [this]
  · rw [if_neg (fun z => h (hm.mp z)), if_neg h]
    simp
theorem ev_get2T {m : Bag} {a b x : Int} : get2T (dtD m) [.int a, .int b] (.int x) = some (.int ((getP m (a, b)).getD x)) := by
  show some ((lookD (m.map fun e => key2 e.1) (m.map fun e => D.int e.2) (key2 (a, b))).getD (.int x)) = _
  rw [look_dt]
  cases getP m (a, b) <;> rfl
theorem ev_getT {m : Bag} {a b v : Int} (h : getP m (a, b) = some v) : getT (dtD m) [.int a, .int b] = some (.int v) := by
  show lookD (m.map fun e => key2 e.1) (m.map fun e => D.int e.2) (key2 (a, b)) = _
  rw [look_dt, h]
  rfl
theorem ev_putT {ρ : DC.Env} {μ μ1 μ2 : Store} {i : Nat} {fs : XL} {fe : XD} {m : Bag} {a b v : Int} (h0 : ρ[i]? = some (.ow (dtD m))) (he : fe ρ μ = .ok (.int v) μ1) (hk : fs ρ μ1 = .ok [.int a, .int b] μ2) (hl : m.length ≤ 1000000) : sPutT i fs fe ρ μ = .nx (ρ.set i (.ow (dtD (putP m (a, b) v)))) μ2 := by
  unfold sPutT
  rw [he]
  simp only [ev_st_ok, h0, dtD]
  rw [hk]
  have e1 : D.keys [.int a, .int b] = some (key2 (a, b)) := rfl
  have e2 : lenOk [D.int a, D.int b] = true := rfl
  simp only [ev_st_ok, e1, e2]
  have hl' : lenOk (m.map fun e => key2 e.1) = true := Nat.ble_eq.mpr (by rw [List.length_map]; exact hl)
  rw [if_pos trivial, if_pos hl', put_dt]
  rfl
def bump (m : Bag) (j : Int × Int) : Bag := putP m j ((getP m j).getD 0 + 1)
theorem putP_len (m : Bag) (j : Int × Int) (v : Int) : (putP m j v).length ≤ m.length + 1 := by
  unfold putP
  split
  · rw [List.length_map]; omega
  · simp
theorem bump_len (m : Bag) (j : Int × Int) : (bump m j).length ≤ m.length + 1 := putP_len _ _ _
theorem putP_keys (m : Bag) (j : Int × Int) (v : Int) : (putP m j v).map Prod.fst = if j ∈ m.map Prod.fst then m.map Prod.fst else m.map Prod.fst ++ [j] := by
  unfold putP
  split
  · rw [List.map_map]
    apply List.map_congr_left
    intro e _
    show (if e.1 = j then (e.1, v) else e).1 = e.1
    split <;> rfl
  · simp
theorem getP_app_none : ∀ {m m2 : Bag} {j : Int × Int}, j ∉ m.map Prod.fst → getP (m ++ m2) j = getP m2 j
  | [], _, _, _ => rfl
  | (k, v) :: m, m2, j, h => by
    show (if k = j then some v else getP (m ++ m2) j) = _
    have hk : ¬ k = j := fun z => h (by rw [z]; simp)
    rw [if_neg hk, getP_app_none fun z => h (List.mem_cons_of_mem _ z)]
theorem getP_app_some : ∀ {m m2 : Bag} {j : Int × Int}, j ∈ m.map Prod.fst → getP (m ++ m2) j = getP m j
  | [], _, _, h => by cases h
  | (k, v) :: m, m2, j, h => by
    show (if k = j then some v else getP (m ++ m2) j) = if k = j then some v else getP m j
    by_cases hk : k = j
    · rw [if_pos hk, if_pos hk]
    · rw [if_neg hk, if_neg hk]
      refine getP_app_some ?_
      rcases List.mem_cons.mp (show j ∈ k :: m.map Prod.fst from h) with z | z
      · exact absurd z.symm hk
      · exact z
theorem getP_none : ∀ {m : Bag} {j : Int × Int}, j ∉ m.map Prod.fst → getP m j = none
  | [], _, _ => rfl
  | (k, v) :: m, j, h => by
    show (if k = j then some v else getP m j) = none
    rw [if_neg fun z => h (by rw [z]; simp), getP_none fun z => h (List.mem_cons_of_mem _ z)]
theorem getP_mapset : ∀ {m : Bag} {j i : Int × Int} {v : Int}, getP (m.map fun e => if e.1 = j then (e.1, v) else e) i = if i = j ∧ j ∈ m.map Prod.fst then some v else getP m i
  | [], _, _, _ => by simp [getP]
  | (k, w) :: m, j, i, v => by
    have ih := getP_mapset (m := m) (j := j) (i := i) (v := v)
    rw [List.map_cons]
    by_cases hk : k = j
    · show getP ((if k = j then (k, v) else (k, w)) :: _) i = _
      rw [if_pos hk]
      show (if k = i then some v else getP _ i) = _
      by_cases hi : i = j
      · rw [if_pos (by rw [hk, hi]), if_pos ⟨hi, by rw [hk]; simp⟩]
      · rw [if_neg (by rw [hk]; exact fun z => hi z.symm), ih, if_neg (by simp [hi]), if_neg (by simp [hi])]
        show getP m i = if k = i then some w else getP m i
        rw [if_neg (by rw [hk]; exact fun z => hi z.symm)]
    · show getP ((if k = j then (k, v) else (k, w)) :: _) i = _
      rw [if_neg hk]
      show (if k = i then some w else getP _ i) = _
      rw [ih]
      have hm : (j ∈ ((k, w) :: m).map Prod.fst) ↔ j ∈ m.map Prod.fst := by
        show j ∈ k :: m.map Prod.fst ↔ _
        rw [List.mem_cons]
        exact ⟨fun z => z.resolve_left fun z => hk z.symm, .inr⟩
      by_cases hi : i = j
      · subst hi
        rw [if_neg hk]
        by_cases hjm : i ∈ m.map Prod.fst
        · rw [if_pos ⟨rfl, hjm⟩, if_pos ⟨rfl, hm.mpr hjm⟩]
        · rw [if_neg (fun z => hjm z.2), if_neg (fun z => hjm (hm.mp z.2))]
          show getP m i = if k = i then some w else getP m i
          rw [if_neg hk]
      · rw [if_neg (fun z : i = j ∧ j ∈ m.map Prod.fst => hi z.1), if_neg (fun z : i = j ∧ j ∈ ((k, w) :: m).map Prod.fst => hi z.1)]
        rfl
theorem getP_put (m : Bag) (j i : Int × Int) (v : Int) : getP (putP m j v) i = if i = j then some v else getP m i := by
  unfold putP
  by_cases h : j ∈ m.map Prod.fst
  · rw [if_pos h, getP_mapset]
    by_cases hi : i = j
    · rw [if_pos ⟨hi, h⟩, if_pos hi]
    · rw [if_neg (fun z => hi z.1), if_neg hi]
  · rw [if_neg h]
    by_cases hi : i = j
    · subst hi
      rw [if_pos rfl, getP_app_none h]
      show (if i = i then some v else none) = some v
      rw [if_pos rfl]
    · rw [if_neg hi]
      by_cases hm : i ∈ m.map Prod.fst
      · rw [getP_app_some hm]
      · rw [getP_app_none hm, getP_none hm]
        show (if j = i then some v else none) = none
        rw [if_neg fun z => hi z.symm]
end K75
set_option Elab.async false
set_option linter.all false
set_option maxRecDepth 100000
set_option maxHeartbeats 2000000
namespace K75
open PySem DC
/-! ### counting rows -/
theorem endG_nil (p : Plan) (k : Nat) (u : Int) : endG p k u [] = none := by simp only [endG]
theorem endG_snoc : ∀ (r : List Bool) (p : Plan) (k : Nat) (u : Int) (b : Bool) (l h : Int), p[r.length]? = some (l, h) →
    endG p k u (r ++ [b]) = match endG p k u r with
      | some e => some e
      | none => if u + cnt r + bI b ≤ l then some (k + r.length + 1, true) else if h ≤ u + cnt r + bI b then some (k + r.length + 1, false) else none
  | [], [], k, u, b, l, h, e => by cases e
  | [], (l', h') :: p, k, u, b, l, h, e => by
    cases e
    simp only [List.nil_append, endG]
    have : ((cnt [] : Nat) : Int) = 0 := rfl
    rw [this]
    simp
  | c :: r, [], k, u, b, l, h, e => by cases e
  | c :: r, (l', h') :: p, k, u, b, l, h, e => by
    have ih := endG_snoc r p (k + 1) (u + bI c) b l h e
    rw [List.cons_append]
    simp only [endG]
    by_cases h1 : u + bI c ≤ l'
    · simp [h1]
    · by_cases h2 : h' ≤ u + bI c
      · simp [h1, h2]
      · rw [if_neg h1, if_neg h2, if_neg h1, if_neg h2, ih]
        have hc : ((cnt (c :: r) : Nat) : Int) = bI c + cnt r := by
          unfold cnt bI
          cases c <;> simp <;> omega
        rw [hc, ← Int.add_assoc, List.length_cons, show k + (r.length + 1) + 1 = k + 1 + r.length + 1 by omega]
theorem endG_le : ∀ (r : List Bool) (p : Plan) (k : Nat) (u : Int) (j : Nat) (d : Bool), endG p k u r = some (j, d) → j ≤ k + r.length
  | [], p, k, u, j, d, e => by rw [endG_nil] at e; cases e
  | c :: r, [], k, u, j, d, e => by simp only [endG] at e; cases e
  | c :: r, (l, h) :: p, k, u, j, d, e => by
    simp only [endG] at e
    rw [List.length_cons]
    by_cases h1 : u + bI c ≤ l
    · rw [if_pos h1] at e; cases e; omega
    · rw [if_neg h1] at e
      by_cases h2 : h ≤ u + bI c
      · rw [if_pos h2] at e; cases e; omega
      · rw [if_neg h2] at e
        have := endG_le r p (k + 1) _ j d e
        omega
def isAt (m : Nat) : Option (Nat × Bool) → Bool
  | some (k, _) => decide (k = m)
  | none => false
abbrev opQ (p : Plan) (u : Nat) (r : List Bool) : Bool := (endG p 0 0 r).isNone && decide (cnt r = u)
abbrev enQ (p : Plan) (m u : Nat) (r : List Bool) : Bool := isAt m (endG p 0 0 r) && decide (cnt r = u)
def opC (p : Plan) (m u : Nat) : Nat := (allR m).countP (opQ p u)
def enC (p : Plan) (m u : Nat) : Nat := (allR m).countP (enQ p m u)
theorem count_flat (P : List Bool → Bool) : ∀ l : List (List Bool), (l.flatMap fun r => [r ++ [false], r ++ [true]]).countP P = l.countP (fun r => P (r ++ [false])) + l.countP (fun r => P (r ++ [true]))
  | [] => rfl
  | r :: l => by
    rw [List.flatMap_cons, List.countP_append, count_flat P l, List.countP_cons, List.countP_cons, List.countP_cons, List.countP_cons, List.countP_nil]
    omega
theorem cnt_app (r : List Bool) (b : Bool) : cnt (r ++ [b]) = cnt r + (if b then 1 else 0) := by
  unfold cnt
  cases b <;> simp
theorem cnt_le (r : List Bool) : cnt r ≤ r.length := List.length_filter_le _ _
/-- what one more step does with a row that is still open -/
theorem snoc_open {p : Plan} {m : Nat} {l h : Int} (hp : p[m]? = some (l, h)) {r : List Bool} (hr : r.length = m) (b : Bool) :
    (endG p 0 0 (r ++ [b])).isNone = ((endG p 0 0 r).isNone && inB l h (cnt (r ++ [b]))) ∧
    isAt (m + 1) (endG p 0 0 (r ++ [b])) = ((endG p 0 0 r).isNone && !inB l h (cnt (r ++ [b]))) := by
  have e := endG_snoc r p 0 0 b l h (by rw [hr]; exact hp)
  have hb : (0 : Int) + cnt r + bI b = (cnt (r ++ [b]) : Nat) := by
    rw [cnt_app]
    unfold bI
    cases b <;> simp
  rw [hb] at e
  rw [e]
  cases hg : endG p 0 0 r with
  | some x =>
    obtain ⟨j, d⟩ := x
    have := endG_le r p 0 0 j d hg
    refine ⟨rfl, ?_⟩
    show decide (j = m + 1) = false
    exact decide_eq_false (by omega)
  | none =>
    unfold inB
    simp only [Option.isNone_none, Bool.true_and]
    by_cases h1 : ((cnt (r ++ [b]) : Nat) : Int) ≤ l
    · have h2 : ¬ l < ((cnt (r ++ [b]) : Nat) : Int) := by omega
      rw [if_pos h1, decide_eq_false h2]
      exact ⟨rfl, by show decide (0 + r.length + 1 = m + 1) = true; exact decide_eq_true (by omega)⟩
    · have h2 : l < ((cnt (r ++ [b]) : Nat) : Int) := by omega
      rw [if_neg h1, decide_eq_true h2, Bool.true_and]
      by_cases h3 : h ≤ ((cnt (r ++ [b]) : Nat) : Int)
      · have h4 : ¬ ((cnt (r ++ [b]) : Nat) : Int) < h := by omega
        rw [if_pos h3, decide_eq_false h4]
        exact ⟨rfl, by show decide (0 + r.length + 1 = m + 1) = true; exact decide_eq_true (by omega)⟩
      · have h4 : ((cnt (r ++ [b]) : Nat) : Int) < h := by omega
        rw [if_neg h3, decide_eq_true h4]
        exact ⟨rfl, rfl⟩
abbrev tot (f : Nat → Nat) (u : Nat) : Nat := f u + if u = 0 then 0 else f (u - 1)
theorem count_no {P : List Bool → Bool} {l : List (List Bool)} (h : ∀ r, r ∈ l → P r = false) : l.countP P = 0 := List.countP_eq_zero.mpr fun r hr => by rw [h r hr]; decide
theorem count_congr {P Q : List Bool → Bool} {l : List (List Bool)} (h : ∀ r, r ∈ l → P r = Q r) : l.countP P = l.countP Q := List.countP_congr fun r hr => by rw [h r hr]
/-- both kinds at once: g says of a tail count whether it goes into the sort that is counted -/
theorem step_count {p : Plan} {m u : Nat} (g : Nat → Bool) {P : List Bool → Bool} (hP : ∀ r, r ∈ allR m → ∀ b, P (r ++ [b]) = ((endG p 0 0 r).isNone && g (cnt (r ++ [b])) && decide (cnt (r ++ [b]) = u))) :
    (allR (m + 1)).countP P = if g u then tot (opC p m) u else 0 := by
  show ((allR m).flatMap fun r => [r ++ [false], r ++ [true]]).countP P = _
  rw [count_flat]
  cases hg : g u with
  | false =>
    rw [count_no, count_no]
    · rfl
    · intro r hr
      rw [hP r hr]
      by_cases e : cnt (r ++ [true]) = u
      · rw [e, hg, Bool.and_false, Bool.false_and]
      · rw [decide_eq_false e, Bool.and_false]
    · intro r hr
      rw [hP r hr]
      by_cases e : cnt (r ++ [false]) = u
      · rw [e, hg, Bool.and_false, Bool.false_and]
      · rw [decide_eq_false e, Bool.and_false]
  | true =>
    rw [if_pos rfl]
    have h1 : (allR m).countP (fun r => P (r ++ [false])) = opC p m u := count_congr fun r hr => by
      rw [hP r hr]
      have : cnt (r ++ [false]) = cnt r := by rw [cnt_app]; rfl
      rw [this]
      by_cases e : cnt r = u
      · rw [e, hg, Bool.and_true]; unfold opQ; rw [e]
      · unfold opQ; rw [decide_eq_false e, Bool.and_false, Bool.and_false]
    have h2 : (allR m).countP (fun r => P (r ++ [true])) = if u = 0 then 0 else opC p m (u - 1) := by
      by_cases hu : u = 0
      · rw [if_pos hu]
        refine count_no fun r hr => ?_
        rw [hP r hr]
        have : ¬ cnt (r ++ [true]) = u := by rw [cnt_app, hu]; simp
        rw [decide_eq_false this, Bool.and_false]
      · rw [if_neg hu]
        refine count_congr fun r hr => ?_
        rw [hP r hr]
        have hc : cnt (r ++ [true]) = cnt r + 1 := by rw [cnt_app]; rfl
        rw [hc]
        by_cases e : cnt r + 1 = u
        · have e' : cnt r = u - 1 := by omega
          unfold opQ
          rw [e, hg, Bool.and_true, decide_eq_true e', decide_eq_true rfl]
        · have e' : ¬ cnt r = u - 1 := by omega
          unfold opQ
          rw [decide_eq_false e, decide_eq_false e', Bool.and_false, Bool.and_false]
    rw [h1, h2]
theorem opC_step {p : Plan} {m u : Nat} {l h : Int} (hp : p[m]? = some (l, h)) : opC p (m + 1) u = if inB l h u then tot (opC p m) u else 0 :=
  step_count (inB l h) fun r hr b => by
    have := (snoc_open hp (allR_mem m r hr) b).1
    unfold opQ
    rw [this]
theorem enC_step {p : Plan} {m u : Nat} {l h : Int} (hp : p[m]? = some (l, h)) : enC p (m + 1) u = if !inB l h u then tot (opC p m) u else 0 :=
  step_count (fun u => !inB l h u) fun r hr b => by
    have := (snoc_open hp (allR_mem m r hr) b).2
    unfold enQ
    rw [this]
theorem opC_big {p : Plan} {m u : Nat} (h : m < u) : opC p m u = 0 := count_no fun r hr => by
  have h1 := cnt_le r
  rw [allR_mem m r hr] at h1
  unfold opQ
  rw [decide_eq_false (show ¬ cnt r = u by omega), Bool.and_false]
/-! ### layers as counts -/
def lay (f : Nat → Nat) (m : Nat) : List Int := (List.range (m + 1)).map fun (u : Nat) => ((f u : Nat) : Int)
theorem lay_get (f : Nat → Nat) (m i : Nat) : (lay f m)[i]? = if i ≤ m then some ((f i : Nat) : Int) else none := by
  unfold lay
  rw [List.getElem?_map]
  by_cases h : i ≤ m
  · rw [List.getElem?_range (by omega), if_pos h]; rfl
  · rw [List.getElem?_eq_none (by simp; omega), if_neg h]; rfl
theorem lay_len (f : Nat → Nat) (m : Nat) : (lay f m).length = m + 1 := by unfold lay; simp
theorem lay_ext {f g : Nat → Nat} {m : Nat} (h : ∀ u, u ≤ m → f u = g u) : lay f m = lay g m := by
  unfold lay
  apply List.map_congr_left
  intro u hu
  rw [h u (by have := List.mem_range.mp hu; omega)]
theorem step_lay {f : Nat → Nat} {m : Nat} (h0 : f (m + 1) = 0) : stepH (lay f m) = lay (tot f) (m + 1) := by
  apply List.ext_getElem?
  intro i
  unfold stepH
  rw [List.getElem?_zipWith, lay_get]
  by_cases h : i ≤ m + 1
  · rw [if_pos h]
    have e1 : (lay f m ++ [0])[i]? = some ((f i : Nat) : Int) := by
      by_cases h2 : i ≤ m
      · rw [List.getElem?_append_left (by rw [lay_len]; omega), lay_get, if_pos h2]
      · have : i = m + 1 := by omega
        subst this
        rw [List.getElem?_append_right (by rw [lay_len]; omega), lay_len, Nat.sub_self, h0]
        rfl
    rw [e1]
    cases i with
    | zero =>
      show some (((f 0 : Nat) : Int) + 0) = some ((f 0 + 0 : Nat) : Int)
      rw [Int.add_zero, Nat.add_zero]
    | succ j =>
      have e2 : (0 :: lay f m)[j + 1]? = some ((f j : Nat) : Int) := by
        rw [List.getElem?_cons_succ, lay_get, if_pos (by omega)]
      rw [e2]
      show some (((f (j + 1) : Nat) : Int) + ((f j : Nat) : Int)) = some ((f (j + 1) + f j : Nat) : Int)
      rfl
  · rw [if_neg h, List.getElem?_eq_none (by simp [lay_len]; omega)]
theorem mapIdx_lay {f : Nat → Nat} {m : Nat} (k : Nat → Bool) : (lay f m).mapIdx (fun u w => if k u = true then w else 0) = lay (fun u => if k u then f u else 0) m := by
  apply List.ext_getElem?
  intro i
  rw [List.getElem?_mapIdx, lay_get, lay_get]
  by_cases h : i ≤ m
  · rw [if_pos h, if_pos h]
    show some (if k i = true then ((f i : Nat) : Int) else 0) = some (((if k i = true then f i else 0 : Nat)) : Int)
    cases k i <;> rfl
  · rw [if_neg h, if_neg h]; rfl
theorem open_lay {f : Nat → Nat} {m : Nat} (l h : Int) : openL l h (lay f m) = lay (fun u => if inB l h u then f u else 0) m := mapIdx_lay _
theorem end_lay {f : Nat → Nat} {m : Nat} (l h : Int) : endL l h (lay f m) = lay (fun u => if !inB l h u then f u else 0) m := by
  rw [← mapIdx_lay]
  unfold endL
  congr 1
  funext u w
  cases inB l h u <;> rfl
theorem opAt_back : ∀ (p : Plan) (a : List Int) (j : Nat) (l h : Int), p[j]? = some (l, h) → opAt p a (j + 1) = openL l h (stepH (opAt p a j)) ∧ (endsT p a)[j]? = some (endL l h (stepH (opAt p a j)))
  | [], _, _, _, _, e => by cases e
  | (l', h') :: p, a, 0, l, h, e => by cases e; exact ⟨rfl, rfl⟩
  | (l', h') :: p, a, j + 1, l, h, e => by
    have := opAt_back p (openL l' h' (stepH a)) j l h e
    rw [opAt_succ, opAt_succ]
    exact this
theorem opAt_lay {p : Plan} : ∀ (m : Nat), m ≤ p.length → opAt p [1] m = lay (opC p m) m
  | 0, _ => by
    have : opC p 0 0 = 1 := by
      unfold opC allR opQ
      rw [List.countP_cons, endG_nil]
      rfl
    show [1] = [((opC p 0 0 : Nat) : Int)]
    rw [this]
    rfl
  | m + 1, h => by
    obtain ⟨⟨l, hh⟩, hx⟩ : ∃ x, p[m]? = some x := ⟨_, List.getElem?_eq_getElem (by omega)⟩
    rw [(opAt_back p [1] m l hh hx).1, opAt_lay m (by omega), step_lay (opC_big (by omega)), open_lay]
    exact lay_ext fun u _ => (opC_step hx).symm
theorem ends_lay {p : Plan} {m : Nat} (h : m < p.length) : (endsT p [1])[m]? = some (lay (enC p (m + 1)) (m + 1)) := by
  obtain ⟨⟨l, hh⟩, hx⟩ : ∃ x, p[m]? = some x := ⟨_, List.getElem?_eq_getElem h⟩
  rw [(opAt_back p [1] m l hh hx).2, opAt_lay m (by omega), step_lay (opC_big (by omega)), end_lay]
  exact congrArg some (lay_ext fun u _ => (enC_step hx).symm)
end K75
set_option Elab.async false
set_option linter.all false
set_option maxRecDepth 100000
set_option maxHeartbeats 2000000
namespace K75
open PySem DC
/-! ### bags of events -/
abbrev Ev := List (Int × Int)
structure RepB (m : Bag) (E : Ev) : Prop where
  nd : (m.map Prod.fst).Nodup
  mem : ∀ k, k ∈ m.map Prod.fst ↔ k ∈ E
  get : ∀ k, (getP m k).getD 0 = (E.count k : Int)
  len : m.length ≤ E.length
theorem RepB.nil : RepB [] [] := ⟨List.Pairwise.nil, fun k => Iff.rfl, fun k => rfl, Nat.le_refl _⟩
theorem RepB.bump {m : Bag} {E : Ev} (r : RepB m E) (j : Int × Int) : RepB (bump m j) (E ++ [j]) := by
  have hk := putP_keys m j ((getP m j).getD 0 + 1)
  refine ⟨?_, fun k => ?_, fun k => ?_, ?_⟩
  · show ((putP m j ((getP m j).getD 0 + 1)).map Prod.fst).Nodup
    rw [hk]
    split
    · exact r.nd
    · rename_i hj
      refine List.nodup_append.mpr ⟨r.nd, by simp, fun a ha b hb => ?_⟩
      rw [List.mem_singleton.mp hb]
      exact fun z => hj (z ▸ ha)
  · show k ∈ (putP m j ((getP m j).getD 0 + 1)).map Prod.fst ↔ _
    rw [hk, List.mem_append, List.mem_singleton, ← r.mem k]
    split
    · rename_i hj
      exact ⟨.inl, fun z => z.elim id fun z => z ▸ hj⟩
    · rw [List.mem_append, List.mem_singleton]
  · show (getP (putP m j ((getP m j).getD 0 + 1)) k).getD 0 = _
    rw [getP_put, List.count_append]
    by_cases h : k = j
    · subst h
      rw [if_pos rfl, List.count_singleton_self, Int.natCast_add, ← r.get k]
      rfl
    · rw [if_neg h, r.get k, List.count_singleton, beq_eq_false_iff_ne.mpr fun z => h z.symm]
      rfl
  · have := bump_len m j
    have h2 := r.len
    rw [List.length_append]
    show _ ≤ E.length + 1
    omega
/-! ### _law_small_right, the two loops that count -/
theorem sr_c {s0 s1 s2 s3 s5 s6 : Sl} {r : List Bool} {μ : Store} (h : r.length ≤ 1000) : ∃ ds, C__law_small_right_1 [s0, s1, s2, s3, .fz (rowD r), s5, s6, .no] μ = .ok (.lst ds) μ ∧ ds.length = cnt r := by
  refine ⟨((r.map fun b => D.str (rowS [b])).filter isU).map id, ?_, by rw [List.map_id]; exact filt_u _⟩
  have hs : iSeq (xVar 4) [s0, s1, s2, s3, .fz (rowD r), s5, s6, .no] μ = .ok (r.map fun b => D.str (rowS [b])) μ := by
    simp [strD_row]
  refine ev_lc (p := isU) (h := id) hs rfl (by simp; omega) fun d hd => ?_
  obtain ⟨b, _, rfl⟩ := List.mem_map.mp hd
  refine ⟨_, rfl, ?_, fun _ => by simp [wipeE]⟩
  have := eq_u b
  have hb : isU (.str (rowS [b])) = b := by
    show decide (rowS [b] = rowS [true]) = b
    rw [ev_eqSS, rowS_u] at this
    exact D.bl.inj (Option.some.inj this)
  rw [hb]
  simp [-ev_eqSS, wipeE, eq_u]
def evE (p : Plan) (m : Nat) (r : List Bool) : Ev := if isAt m (endG p 0 0 r) then [((m : Int), (cnt r : Int))] else []
def evO (p : Plan) (m : Nat) (r : List Bool) : Ev := if (endG p 0 0 r).isNone then [((m : Int), (cnt r : Int))] else []
theorem bor1 {m : Bag} {s0 s2 s4 s5 s7 : Sl} {a b : Int} {μ : Store} : xBor 1 (xGet2T (xVar 1) (lCons (xVar 3) (lCons (xVar 6) lNil)) (xC (.int 0))) [s0, .ow (dtD m), s2, .fz (.int a), s4, s5, .fz (.int b), s7] μ = .ok (.int ((getP m (a, b)).getD 0)) μ := by
  show ((xGet2T (xVar 1) (lCons (xVar 3) (lCons (xVar 6) lNil)) (xC (.int 0)) [s0, .fz (dtD m), s2, .fz (.int a), s4, s5, .fz (.int b), s7] μ).bind fun r μ' => if D.lf 8 r then .ok r μ' else .fail) = _
  have : xGet2T (xVar 1) (lCons (xVar 3) (lCons (xVar 6) lNil)) (xC (.int 0)) [s0, .fz (dtD m), s2, .fz (.int a), s4, s5, .fz (.int b), s7] μ = .ok (.int ((getP m (a, b)).getD 0)) μ := by
    show (Res.ofO (get2T (dtD m) [.int a, .int b] (.int 0)) μ : Res D) = _
    rw [ev_get2T]; rfl
  rw [this]
  rfl
theorem bor2 {m : Bag} {s0 s1 s4 s5 s7 : Sl} {a b : Int} {μ : Store} : xBor 2 (xGet2T (xVar 2) (lCons (xVar 3) (lCons (xVar 6) lNil)) (xC (.int 0))) [s0, s1, .ow (dtD m), .fz (.int a), s4, s5, .fz (.int b), s7] μ = .ok (.int ((getP m (a, b)).getD 0)) μ := by
  show ((xGet2T (xVar 2) (lCons (xVar 3) (lCons (xVar 6) lNil)) (xC (.int 0)) [s0, s1, .fz (dtD m), .fz (.int a), s4, s5, .fz (.int b), s7] μ).bind fun r μ' => if D.lf 8 r then .ok r μ' else .fail) = _
  have : xGet2T (xVar 2) (lCons (xVar 3) (lCons (xVar 6) lNil)) (xC (.int 0)) [s0, s1, .fz (dtD m), .fz (.int a), s4, s5, .fz (.int b), s7] μ = .ok (.int ((getP m (a, b)).getD 0)) μ := by
    show (Res.ofO (get2T (dtD m) [.int a, .int b] (.int 0)) μ : Res D) = _
    rw [ev_get2T]; rfl
  rw [this]
  rfl
def nOw (s : Sl) : Prop := ∀ d, s ≠ .ow d
theorem sr_step {p : Plan} {m1 m2 : Bag} {E1 E2 : Ev} {m : Nat} {s5 s6 : Sl} {r : List Bool} {μ : Store} (hp : p.length ≤ 6) (hr : r.length ≤ p.length) (r1 : RepB m1 E1) (r2 : RepB m2 E2) (l1 : E1.length ≤ 1000) (l2 : E2.length ≤ 1000) : ∃ m1' m2' s5' s6',
    L__law_small_right_2 [.fz (planD p), .ow (dtD m1), .ow (dtD m2), .fz (.int (m : Nat)), .fz (rowD r), s5, s6, .no] μ = .nx [.fz (planD p), .ow (dtD m1'), .ow (dtD m2'), .fz (.int (m : Nat)), .fz (rowD r), s5', s6', .no] μ ∧
    RepB m1' (E1 ++ evE p m r) ∧ RepB m2' (E2 ++ evO p m r) ∧ nOw s6' := by
  obtain ⟨ds, hc, hl⟩ := sr_c (s0 := .fz (planD p)) (s1 := .ow (dtD m1)) (s2 := .ow (dtD m2)) (s3 := .fz (.int (m : Nat))) (s5 := s5) (s6 := s6) (r := r) (μ := μ) (by omega)
  have he := law_end_spec (P := p) (by omega) hr μ
  have b1 := r1.len
  have b2 := r2.len
  have hlen : lenD [.lst ds] = some (.int (cnt r : Nat)) := by rw [← hl]; rfl
  cases hg : endG p 0 0 r with
  | none =>
    rw [hg] at he
    have ee : evE p m r = [] := by unfold evE; rw [hg]; rfl
    have eo : evO p m r = [((m : Int), (cnt r : Int))] := by unfold evO; rw [hg]; rfl
    refine ⟨m1, bump m2 (m, cnt r), .fz .non, .fz (.int (cnt r : Nat)), ?_, by rw [ee, List.append_nil]; exact r1, by rw [eo]; exact r2.bump _, fun d z => by cases z⟩
    have hput := ev_putT (ρ := [.fz (planD p), .ow (dtD m1), .ow (dtD m2), .fz (.int (m : Nat)), .fz (rowD r), .fz .non, .fz (.int (cnt r : Nat)), .no]) (μ := μ) (i := 2) (fs := lCons (xVar 3) (lCons (xVar 6) lNil)) (fe := xBin addD (xBor 2 (xGet2T (xVar 2) (lCons (xVar 3) (lCons (xVar 6) lNil)) (xC (.int 0)))) (xC (.int 1))) (m := m2) (a := m) (b := cnt r) (v := (getP m2 (m, cnt r)).getD 0 + 1) (μ1 := μ) (μ2 := μ) rfl (by simp [bor2]) (by simp) (by omega)
    have n1 : notN .non .non = some (.bl false) := rfl
    have n2 : isN .non .non = some (.bl true) := rfl
    simp [he, endD, hc, hlen, hput, bump, n1, n2]
  | some x =>
    obtain ⟨k, dn⟩ := x
    rw [hg] at he
    have eo : evO p m r = [] := by unfold evO; rw [hg]; rfl
    have hix : ixS μ (.tup [.int (k : Nat), .str (if dn then "down" else "up")]) (.int 0) = some (.int (k : Nat)) := rfl
    have n1 : notN (.tup [.int (k : Nat), .str (if dn then "down" else "up")]) .non = some (.bl true) := rfl
    have n2 : isN (.tup [.int (k : Nat), .str (if dn then "down" else "up")]) .non = some (.bl false) := rfl
    by_cases hk : k = m
    · have ee : evE p m r = [((m : Int), (cnt r : Int))] := by unfold evE; rw [hg]; show (if decide (k = m) = true then _ else _) = _; rw [decide_eq_true hk]; rfl
      refine ⟨bump m1 (m, cnt r), m2, .fz (endD (some (k, dn))), .fz (.int (cnt r : Nat)), ?_, by rw [ee]; exact r1.bump _, by rw [eo, List.append_nil]; exact r2, fun d z => by cases z⟩
      have hput := ev_putT (ρ := [.fz (planD p), .ow (dtD m1), .ow (dtD m2), .fz (.int (m : Nat)), .fz (rowD r), .fz (endD (some (k, dn))), .fz (.int (cnt r : Nat)), .no]) (μ := μ) (i := 1) (fs := lCons (xVar 3) (lCons (xVar 6) lNil)) (fe := xBin addD (xBor 1 (xGet2T (xVar 1) (lCons (xVar 3) (lCons (xVar 6) lNil)) (xC (.int 0)))) (xC (.int 1))) (m := m1) (a := m) (b := cnt r) (v := (getP m1 (m, cnt r)).getD 0 + 1) (μ1 := μ) (μ2 := μ) rfl (by simp [bor1]) (by simp) (by omega)
      simp only [endD] at hput ⊢
      subst hk
      simp [he, endD, hc, hlen, hput, bump, hix, n1, n2]
    · have ee : evE p m r = [] := by unfold evE; rw [hg]; show (if decide (k = m) = true then _ else _) = _; rw [decide_eq_false hk]; rfl
      refine ⟨m1, m2, .fz (endD (some (k, dn))), .fz (.int (cnt r : Nat)), ?_, by rw [ee, List.append_nil]; exact r1, by rw [eo, List.append_nil]; exact r2, fun d z => by cases z⟩
      have hk' : ¬ (k : Int) = (m : Int) := by omega
      simp [he, endD, hc, hlen, hix, hk', n1, n2]
theorem sr_rows {p : Plan} {m : Nat} {μ : Store} (hp : p.length ≤ 6) : ∀ (rs : List (List Bool)) (m1 m2 : Bag) (E1 E2 : Ev) (s4 s5 s6 : Sl), (∀ r, r ∈ rs → r.length ≤ p.length) → RepB m1 E1 → RepB m2 E2 → E1.length + rs.length ≤ 1000 → E2.length + rs.length ≤ 1000 → nOw s6 → ∃ m1' m2' s4' s5' s6',
    sForL (gN 4) L__law_small_right_2 (rs.map rowD) [.fz (planD p), .ow (dtD m1), .ow (dtD m2), .fz (.int (m : Nat)), s4, s5, s6, .no] μ = .nx [.fz (planD p), .ow (dtD m1'), .ow (dtD m2'), .fz (.int (m : Nat)), s4', s5', s6', .no] μ ∧
    RepB m1' (E1 ++ rs.flatMap (evE p m)) ∧ RepB m2' (E2 ++ rs.flatMap (evO p m)) ∧ nOw s6'
  | [], m1, m2, E1, E2, s4, s5, s6, _, r1, r2, _, _, n6 => ⟨m1, m2, s4, s5, s6, rfl, by simpa using r1, by simpa using r2, n6⟩
  | r :: rs, m1, m2, E1, E2, s4, s5, s6, hr, r1, r2, l1, l2, n6 => by
    simp only [List.length_cons] at l1 l2
    obtain ⟨n1, n2, t5, t6, e1, q1, q2, q6⟩ := sr_step (m := m) (s5 := s5) (s6 := s6) (r := r) (μ := μ) hp (hr r (by simp)) r1 r2 (by omega) (by omega)
    have z1 : (E1 ++ evE p m r).length ≤ E1.length + 1 := by unfold evE; split <;> simp
    have z2 : (E2 ++ evO p m r).length ≤ E2.length + 1 := by unfold evO; split <;> simp
    obtain ⟨m1', m2', s4', s5', s6', e2, g1, g2, g6⟩ := sr_rows (m := m) (μ := μ) hp rs n1 n2 _ _ (.fz (rowD r)) t5 t6 (fun x hx => hr x (List.mem_cons_of_mem _ hx)) q1 q2 (by omega) (by omega) q6
    refine ⟨m1', m2', s4', s5', s6', ?_, by rw [List.flatMap_cons, ← List.append_assoc]; exact g1, by rw [List.flatMap_cons, ← List.append_assoc]; exact g2, g6⟩
    rw [List.map_cons, forL_cons (ρ1 := [.fz (planD p), .ow (dtD m1), .ow (dtD m2), .fz (.int (m : Nat)), .fz (rowD r), s5, s6, .no]) (μ2 := μ) rfl e1, e2]
def allE (p : Plan) : Nat → Ev
  | 0 => []
  | n + 1 => allE p n ++ (allR (n + 1)).flatMap (evE p (n + 1))
def allO (p : Plan) : Nat → Ev
  | 0 => []
  | n + 1 => allO p n ++ (allR (n + 1)).flatMap (evO p (n + 1))
theorem flat_len1 {f : List Bool → Ev} (h : ∀ r, (f r).length ≤ 1) : ∀ l : List (List Bool), (l.flatMap f).length ≤ l.length
  | [] => Nat.le_refl _
  | r :: l => by
    rw [List.flatMap_cons, List.length_append, List.length_cons]
    have := h r
    have := flat_len1 h l
    omega
theorem evE_len (p : Plan) (m : Nat) (r : List Bool) : (evE p m r).length ≤ 1 := by unfold evE; split <;> simp
theorem evO_len (p : Plan) (m : Nat) (r : List Bool) : (evO p m r).length ≤ 1 := by unfold evO; split <;> simp
theorem all_len (p : Plan) : ∀ n, (allE p n).length ≤ 2 ^ (n + 1) ∧ (allO p n).length ≤ 2 ^ (n + 1)
  | 0 => ⟨Nat.zero_le _, Nat.zero_le _⟩
  | n + 1 => by
    have ih := all_len p n
    have h1 := flat_len1 (evE_len p (n + 1)) (allR (n + 1))
    have h2 := flat_len1 (evO_len p (n + 1)) (allR (n + 1))
    rw [allR_len] at h1 h2
    have h3 : 2 ^ (n + 1 + 1) = 2 ^ (n + 1) * 2 := Nat.pow_succ ..
    unfold allE allO
    rw [List.length_append, List.length_append]
    omega
theorem sr_all {p : Plan} {μ : Store} (hp : p.length ≤ 6) : ∀ (n k : Nat) (m1 m2 : Bag) (s3 s4 s5 s6 : Sl), k + n ≤ p.length → RepB m1 (allE p k) → RepB m2 (allO p k) → nOw s3 → nOw s6 → ∃ m1' m2' s3' s4' s5' s6',
    sForL (gN 3) L__law_small_right_3 (rngI ((k : Nat) + 1) n) [.fz (planD p), .ow (dtD m1), .ow (dtD m2), s3, s4, s5, s6, .no] μ = .nx [.fz (planD p), .ow (dtD m1'), .ow (dtD m2'), s3', s4', s5', s6', .no] μ ∧
    RepB m1' (allE p (k + n)) ∧ RepB m2' (allO p (k + n)) ∧ nOw s3' ∧ nOw s6'
  | 0, k, m1, m2, s3, s4, s5, s6, _, r1, r2, n3, n6 => ⟨m1, m2, s3, s4, s5, s6, rfl, r1, r2, n3, n6⟩
  | n + 1, k, m1, m2, s3, s4, s5, s6, h, r1, r2, n3, n6 => by
    have ek : ((k : Nat) : Int) + 1 = ((k + 1 : Nat) : Int) := by omega
    have hl := all_len p k
    have hl2 := allR_len (k + 1)
    have h2 : 2 ^ (k + 1) ≤ 2 ^ 6 := Nat.pow_le_pow_right (by decide) (by omega)
    have h3 : (2 : Nat) ^ 6 = 64 := rfl
    obtain ⟨n1, n2, t4, t5, t6, e, q1, q2, q6⟩ := sr_rows (m := k + 1) (μ := μ) hp (allR (k + 1)) m1 m2 _ _ s4 s5 s6 (fun r hr => by rw [allR_mem _ r hr]; omega) r1 r2 (by omega) (by omega) n6
    obtain ⟨m1', m2', s3', s4', s5', s6', e2, g1, g2, g3, g6⟩ := sr_all (μ := μ) hp n (k + 1) n1 n2 (.fz (.int ((k + 1 : Nat)))) t4 t5 t6 (by omega) q1 q2 (fun d z => by cases z) q6
    have hrow := rows_spec (n := k + 1) (by omega) μ
    rw [show k + 1 + n = k + (n + 1) by omega] at g1 g2
    refine ⟨m1', m2', s3', s4', s5', s6', ?_, g1, g2, g3, g6⟩
    show sForL _ _ (.int (((k : Nat) : Int) + 1) :: rngI (((k : Nat) : Int) + 1 + 1) n) _ μ = _
    rw [ek, forL_cons (ρ1 := [.fz (planD p), .ow (dtD m1), .ow (dtD m2), .fz (.int ((k + 1 : Nat))), s4, s5, s6, .no]) (ρ2 := [.fz (planD p), .ow (dtD n1), .ow (dtD n2), .fz (.int ((k + 1 : Nat))), t4, t5, t6, .no]) (μ2 := μ) rfl ?_, e2]
    show ((iSeq (xCall g__law_rows (lCons (xVar 3) lNil)) [.fz (planD p), .ow (dtD m1), .ow (dtD m2), .fz (.int ((k + 1 : Nat))), s4, s5, s6, .no] μ).st _ fun ds μ' => sForL (gN 4) L__law_small_right_2 ds [.fz (planD p), .ow (dtD m1), .ow (dtD m2), .fz (.int ((k + 1 : Nat))), s4, s5, s6, .no] μ') = _
    have hs : iSeq (xCall g__law_rows (lCons (xVar 3) lNil)) [.fz (planD p), .ow (dtD m1), .ow (dtD m2), .fz (.int ((k + 1 : Nat))), s4, s5, s6, .no] μ = .ok ((allR (k + 1)).map rowD) μ := by
      simp only [ev_seq_src, ev_call, ev_lCons, ev_lNil, ev_var, List.getElem?_cons_succ, List.getElem?_cons_zero, slV_fz, ev_bind_ok, hrow, ev_iSeqD_lst, ev_ofO_some]
    rw [hs]
    exact e
end K75
set_option Elab.async false
set_option linter.all false
set_option maxRecDepth 100000
set_option maxHeartbeats 2000000
namespace K75
open PySem DC
/-! ### counts of events -/
abbrev evk (m : Nat) (r : List Bool) : Int × Int := ((m : Int), (cnt r : Int))
theorem flat_count {P : List Bool → Bool} {m : Nat} {f : List Bool → Ev} (hf : ∀ r, f r = if P r = true then [evk m r] else []) (m' u : Nat) : ∀ l : List (List Bool), (l.flatMap f).count ((m' : Int), (u : Int)) = if m = m' then l.countP (fun r => P r && decide (cnt r = u)) else 0
  | [] => by simp
  | r :: l => by
    rw [List.flatMap_cons, List.count_append, flat_count hf m' u l, hf r, List.countP_cons]
    have hk : (evk m r == ((m' : Int), (u : Int))) = (decide (m = m') && decide (cnt r = u)) := by
      rw [Bool.eq_iff_iff]
      simp [evk]
      omega
    by_cases hm : m = m'
    · rw [if_pos hm, if_pos hm]
      cases hP : P r with
      | false => simp
      | true =>
        rw [if_pos rfl, List.count_singleton, hk, decide_eq_true hm, Bool.true_and, Nat.add_comm]
    · rw [if_neg hm, if_neg hm]
      cases hP : P r with
      | false => simp
      | true => rw [if_pos rfl, List.count_singleton, hk, decide_eq_false hm, Bool.false_and]; rfl
theorem evE_if (p : Plan) (m : Nat) (r : List Bool) : evE p m r = if isAt m (endG p 0 0 r) = true then [evk m r] else [] := rfl
theorem evO_if (p : Plan) (m : Nat) (r : List Bool) : evO p m r = if (endG p 0 0 r).isNone = true then [evk m r] else [] := rfl
theorem allE_count (p : Plan) : ∀ (n m u : Nat), (allE p n).count ((m : Int), (u : Int)) = if 1 ≤ m ∧ m ≤ n then enC p m u else 0
  | 0, m, u => by rw [if_neg (by omega)]; rfl
  | n + 1, m, u => by
    unfold allE
    rw [List.count_append, allE_count p n m u, flat_count (evE_if p (n + 1))]
    by_cases h : n + 1 = m
    · subst h
      rw [if_neg (by omega), if_pos rfl, if_pos (by omega), Nat.zero_add]
      rfl
    · rw [if_neg h, Nat.add_zero]
      by_cases h2 : 1 ≤ m ∧ m ≤ n
      · rw [if_pos h2, if_pos (by omega)]
      · rw [if_neg h2, if_neg (by omega)]
theorem allO_count (p : Plan) : ∀ (n m u : Nat), (allO p n).count ((m : Int), (u : Int)) = if 1 ≤ m ∧ m ≤ n then opC p m u else 0
  | 0, m, u => by rw [if_neg (by omega)]; rfl
  | n + 1, m, u => by
    unfold allO
    rw [List.count_append, allO_count p n m u, flat_count (evO_if p (n + 1))]
    by_cases h : n + 1 = m
    · subst h
      rw [if_neg (by omega), if_pos rfl, if_pos (by omega), Nat.zero_add]
      rfl
    · rw [if_neg h, Nat.add_zero]
      by_cases h2 : 1 ≤ m ∧ m ≤ n
      · rw [if_pos h2, if_pos (by omega)]
      · rw [if_neg h2, if_neg (by omega)]
theorem flat_nat {P : List Bool → Bool} {m : Nat} {f : List Bool → Ev} (hf : ∀ r, f r = if P r = true then [evk m r] else []) {k : Int × Int} : ∀ {l : List (List Bool)}, k ∈ l.flatMap f → ∃ u : Nat, k = ((m : Int), (u : Int)) := fun {l} h => by
  obtain ⟨r, _, h2⟩ := List.mem_flatMap.mp h
  rw [hf r] at h2
  split at h2
  · exact ⟨_, List.mem_singleton.mp h2⟩
  · cases h2
theorem allE_nat (p : Plan) {k : Int × Int} : ∀ {n : Nat}, k ∈ allE p n → ∃ m u : Nat, k = ((m : Int), (u : Int))
  | 0, h => by cases h
  | n + 1, h => by
    unfold allE at h
    rcases List.mem_append.mp h with h | h
    · exact allE_nat p h
    · obtain ⟨u, e⟩ := flat_nat (evE_if p (n + 1)) h
      exact ⟨_, u, e⟩
/-! ### the points, row by row -/
theorem ptsT_range (f : Nat → List Int) : ∀ (n s : Nat), ptsT s ((List.range' s n).map f) = (List.range' s n).flatMap fun m => rowPts m (f m)
  | 0, s => rfl
  | n + 1, s => by
    rw [List.range'_succ, List.map_cons, List.flatMap_cons, ← ptsT_range f n (s + 1)]
    rfl
theorem ends_eq (p : Plan) : endsT p [1] = (List.range' 0 p.length).map fun m => lay (enC p (m + 1)) (m + 1) := by
  apply List.ext_getElem?
  intro i
  rw [List.getElem?_map]
  by_cases h : i < p.length
  · rw [ends_lay h, List.getElem?_range' h]
    simp
  · rw [List.getElem?_eq_none (by rw [endsT_len]; omega), List.getElem?_eq_none (by simp; omega)]
    rfl
def pk (p : Plan) : List (Int × Int) := (pts p).map fun t => (t.1, t.2.1)
theorem rowPts_lay (k : Nat) (f : Nat → Nat) (m : Nat) : rowPts k (lay f m) = ((List.range (m + 1)).filter fun u => decide (0 < f u)).map fun (u : Nat) => ((k : Int) + 1, (u : Int), ((f u : Nat) : Int)) := by
  have e : enumI (lay f m) = (List.range (m + 1)).map fun (u : Nat) => (u, ((f u : Nat) : Int)) := by
    unfold enumI lay
    apply List.ext_getElem?
    intro i
    rw [List.getElem?_mapIdx, List.getElem?_map, List.getElem?_map]
    by_cases h : i < m + 1
    · rw [List.getElem?_range h]; rfl
    · rw [List.getElem?_eq_none (by simp; omega)]; rfl
  unfold rowPts
  rw [e, List.filter_map, List.map_map]
  congr 1
  apply List.filter_congr
  intro u _
  show decide (0 < ((f u : Nat) : Int)) = decide (0 < f u)
  rw [Bool.eq_iff_iff]
  simp
theorem pts_eq (p : Plan) : pts p = (List.range' 0 p.length).flatMap fun m => ((List.range (m + 1 + 1)).filter fun u => decide (0 < enC p (m + 1) u)).map fun (u : Nat) => ((m : Int) + 1, (u : Int), ((enC p (m + 1) u : Nat) : Int)) := by
  show ptsT 0 (endsT p [1]) = _
  rw [ends_eq, ptsT_range]
  congr 1
  funext m
  exact rowPts_lay _ _ _
theorem enC_big {p : Plan} {m u : Nat} (h : m < u) : enC p m u = 0 := count_no fun r hr => by
  have h1 := cnt_le r
  rw [allR_mem m r hr] at h1
  unfold enQ
  rw [decide_eq_false (show ¬ cnt r = u by omega), Bool.and_false]
theorem pts_in {p : Plan} {t : Int × Int × Int} : t ∈ pts p ↔ ∃ m u : Nat, 1 ≤ m ∧ m ≤ p.length ∧ 0 < enC p m u ∧ t = ((m : Int), (u : Int), ((enC p m u : Nat) : Int)) := by
  rw [pts_eq, List.mem_flatMap]
  constructor
  · rintro ⟨m, hm, ht⟩
    obtain ⟨u, hu, rfl⟩ := List.mem_map.mp ht
    have h1 := List.mem_filter.mp hu
    have h2 : m < p.length := by have := List.mem_range'.mp hm; omega
    exact ⟨m + 1, u, by omega, by omega, of_decide_eq_true h1.2, rfl⟩
  · rintro ⟨m, u, h1, h2, h3, rfl⟩
    refine ⟨m - 1, List.mem_range'.mpr ⟨m - 1, by omega, by omega⟩, List.mem_map.mpr ⟨u, List.mem_filter.mpr ⟨List.mem_range.mpr ?_, ?_⟩, ?_⟩⟩
    · rcases Nat.lt_or_ge m u with h | h
      · rw [enC_big h] at h3; omega
      · omega
    · rw [show m - 1 + 1 = m by omega]; exact decide_eq_true h3
    · rw [show m - 1 + 1 = m by omega]
      congr 1
      omega
theorem pk_in {p : Plan} {k : Int × Int} : k ∈ pk p ↔ k ∈ allE p p.length := by
  unfold pk
  rw [List.mem_map]
  constructor
  · rintro ⟨t, ht, rfl⟩
    obtain ⟨m, u, h1, h2, h3, rfl⟩ := pts_in.mp ht
    apply List.count_pos_iff.mp
    rw [allE_count, if_pos ⟨h1, h2⟩]
    exact h3
  · intro h
    obtain ⟨m, u, rfl⟩ := allE_nat p h
    have h1 := List.count_pos_iff.mpr h
    rw [allE_count] at h1
    by_cases hm : 1 ≤ m ∧ m ≤ p.length
    · rw [if_pos hm] at h1
      exact ⟨_, pts_in.mpr ⟨m, u, hm.1, hm.2, h1, rfl⟩, rfl⟩
    · rw [if_neg hm] at h1; omega
abbrev lexP (a b : Int × Int) : Prop := a.1 < b.1 ∨ a.1 = b.1 ∧ a.2 < b.2
theorem pk_lex (p : Plan) : (pk p).Pairwise lexP := by
  unfold pk
  rw [List.pairwise_map, pts_eq, List.pairwise_flatMap]
  constructor
  · intro m _
    rw [List.pairwise_map]
    refine (List.Pairwise.filter _ (List.pairwise_lt_range (n := m + 1 + 1))).imp ?_
    intro a b h
    right
    exact ⟨rfl, by show (a : Int) < b; omega⟩
  · refine (List.pairwise_lt_range' (s := 0) (n := p.length)).imp ?_
    intro a b h x hx y hy
    obtain ⟨u, _, rfl⟩ := List.mem_map.mp hx
    obtain ⟨v, _, rfl⟩ := List.mem_map.mp hy
    left
    show (a : Int) + 1 < (b : Int) + 1
    omega
theorem sort_pk {p : Plan} {m : Bag} (r : RepB m (allE p p.length)) : sortP (m.map Prod.fst) = pk p := by
  have hx := pk_lex p
  have hnd : (pk p).Nodup := hx.imp fun {a b} h e => by
    subst e
    rcases h with h | h <;> omega
  refine sortedP_uniq ((sortP_perm _).trans ?_) (sortP_sorted _) (hx.imp fun {a b} h => SrtO.lexB_no.mpr (by omega))
  rw [List.perm_iff_count]
  intro k
  rw [List.Nodup.count r.nd, List.Nodup.count hnd]
  have : k ∈ m.map Prod.fst ↔ k ∈ pk p := (r.mem k).trans pk_in.symm
  by_cases h : k ∈ pk p
  · rw [if_pos h, if_pos (this.mpr h)]
  · rw [if_neg h, if_neg fun z => h (this.mp z)]
theorem keyPairs_bag : ∀ m : Bag, keyPairs (m.map fun e => key2 e.1) = some (m.map Prod.fst)
  | [] => rfl
  | (k, v) :: m => by
    show (keyPairs (m.map fun e => key2 e.1)).map ((k.1, k.2) :: ·) = _
    rw [keyPairs_bag m]
    rfl
theorem sorted_bag {p : Plan} {m : Bag} (r : RepB m (allE p p.length)) : sortedA [dtD m] = some (.lst ((pk p).map pairI)) := by
  show (keyPairs (m.map fun e => key2 e.1)).map (fun ns => D.lst ((sortP ns).map pairI)) = _
  rw [keyPairs_bag]
  show some (D.lst ((sortP (m.map Prod.fst)).map pairI)) = _
  rw [sort_pk r]
theorem get_pts {p : Plan} {m : Bag} (r : RepB m (allE p p.length)) {t : Int × Int × Int} (h : t ∈ pts p) : getP m (t.1, t.2.1) = some t.2.2 := by
  obtain ⟨k, u, h1, h2, h3, rfl⟩ := pts_in.mp h
  have := r.get ((k : Int), (u : Int))
  rw [allE_count, if_pos ⟨h1, h2⟩] at this
  show getP m ((k : Int), (u : Int)) = some ((enC p k u : Nat) : Int)
  cases hg : getP m ((k : Int), (u : Int)) with
  | none => rw [hg] at this; simp at this; omega
  | some v => rw [hg] at this; rw [← this]; rfl
end K75
set_option Elab.async false
set_option linter.all false
set_option maxRecDepth 100000
set_option maxHeartbeats 2000000
namespace K75
open PySem DC
/-! ### _law_small_right -/
@[simp] theorem ev_newT {ρ : DC.Env} {μ : Store} : xNewT ρ μ = .ok (.dt [] []) μ := rfl
theorem vs2 {s0 s1 s2 s3 s4 s5 s6 s7 : Sl} (n3 : nOw s3) (n6 : nOw s6) : vsOk [s0, s1, s2, s3, s4, s5, s6, s7] [3, 6] = true := by
  unfold vsOk
  cases s3 <;> cases s6 <;> first | rfl | exact absurd rfl (n3 _) | exact absurd rfl (n6 _)
theorem vs1 {s0 s1 s2 s3 s4 s5 s6 s7 : Sl} (n6 : nOw s6) : vsOk [s0, s1, s2, s3, s4, s5, s6, s7] [6] = true := by
  unfold vsOk
  cases s6 <;> first | rfl | exact absurd rfl (n6 _)
def trip (m : Bag) : D → D
  | .tup [.int a, .int b] => .tup [.int a, .int b, .int ((getP m (a, b)).getD 0)]
  | _ => .non
theorem sr_c4 {p : Plan} {m : Bag} {s0 s2 s3 s4 s5 s6 : Sl} {μ : Store} (r : RepB m (allE p p.length)) (hp : p.length ≤ 40) (n3 : nOw s3) (n6 : nOw s6) :
    C__law_small_right_4 [s0, .fz (dtD m), s2, s3, s4, s5, s6, .no] μ = .ok (.lst ((pts p).map pt3)) μ := by
  have hl := pts_len hp
  have hpl : (pk p).length ≤ 10000 := by unfold pk; rw [List.length_map]; exact hl
  refine (ev_lcT (h := trip m) (ds := (pk p).map pairI) (μ' := μ) ?_ (vs2 n3 n6) (by rw [List.length_map]; omega) fun d hd => ?_).trans ?_
  · simp [sorted_bag r]
  · obtain ⟨k, hk, rfl⟩ := List.mem_map.mp hd
    obtain ⟨t, ht, rfl⟩ := List.mem_map.mp hk
    have hg := get_pts r ht
    refine ⟨[s0, .fz (dtD m), s2, .fz (.int t.1), s4, s5, .fz (.int t.2.1), .no], rfl, ?_⟩
    have h1 : xBor 1 (xGetT (xVar 1) (lCons (xVar 3) (lCons (xVar 6) lNil))) [s0, .fz (dtD m), s2, .fz (.int t.1), s4, s5, .fz (.int t.2.1), .no] μ = .ok (.int t.2.2) μ := by
      show (Res.ofO (getT (dtD m) [.int t.1, .int t.2.1]) μ : Res D) = _
      rw [ev_getT hg]
      rfl
    have h2 : trip m (pairI (t.1, t.2.1)) = .tup [.int t.1, .int t.2.1, .int t.2.2] := by
      show D.tup [.int t.1, .int t.2.1, .int ((getP m (t.1, t.2.1)).getD 0)] = _
      rw [hg]
      rfl
    rw [h2]
    simp [h1]
  · unfold pk
    rw [List.map_map, List.map_map]
    congr 2
    apply List.map_congr_left
    intro t ht
    show D.tup [.int t.1, .int t.2.1, .int ((getP m (t.1, t.2.1)).getD 0)] = _
    rw [get_pts r ht]
    rfl
def oneF (m : Bag) (k : Nat) : D → D
  | .int u => .int ((getP m ((k : Int), u)).getD 0)
  | _ => .non
theorem sr_c5 {p : Plan} {m : Bag} {k : Nat} {s0 s1 s4 s5 s6 : Sl} {μ : Store} (r : RepB m (allO p p.length)) (h1 : 1 ≤ k) (hk : k ≤ p.length) (hp : p.length ≤ 40) (n6 : nOw s6) :
    C__law_small_right_5 [s0, s1, .ow (dtD m), .fz (.int (k : Nat)), s4, s5, s6, .no] μ = .ok (intsD (opAt p [1] k)) μ := by
  have hr := rgOk_int (i := (k : Nat) + 1) (by omega) (by omega)
  have hs : iRg1 (lCons (xBin addD (xVar 3) (xC (.int 1))) lNil) [s0, s1, .ow (dtD m), .fz (.int (k : Nat)), s4, s5, s6, .no] μ = .ok (rangeD 0 (k + 1)) μ := by
    unfold iRg1
    simp [hr]
  refine (ev_lcT (h := oneF m k) (ds := rangeD 0 (k + 1)) (μ' := μ) hs (vs1 n6) (by unfold rangeD; simp; omega) fun d hd => ?_).trans ?_
  · unfold rangeD at hd
    obtain ⟨u, hu, rfl⟩ := List.mem_map.mp hd
    exact ⟨[s0, s1, .ow (dtD m), .fz (.int (k : Nat)), s4, s5, .fz (.int (0 + (u : Nat))), .no], rfl, bor2⟩
  · rw [opAt_lay k hk]
    unfold intsD lay rangeD
    rw [List.map_map, List.map_map]
    congr 2
    apply List.map_congr_left
    intro u _
    show D.int ((getP m ((k : Int), 0 + ((u : Nat) : Int))).getD 0) = _
    rw [show (0 : Int) + (u : Nat) = (u : Nat) by omega, r.get, allO_count, if_pos ⟨h1, hk⟩]
    rfl
theorem like_ints (l : List Int) (hl : l.length ≤ 1000) (μ : Store) : g__law_like 12 [.tup (l.map D.int), .tup (l.map D.int)] μ = .ok (.bl true) μ := like12 μ (by
    show (l.map D.int).all (D.pd 11) = true
    rw [List.all_eq_true]
    intro x hx
    obtain ⟨t, _, rfl⟩ := List.mem_map.mp hx
    rfl) (by
    show (decide ((l.map D.int).length ≤ 1000000) && (l.map D.int).all (lenB 11)) = true
    rw [decide_eq_true (by rw [List.length_map]; omega), Bool.true_and, List.all_eq_true]
    intro x hx
    obtain ⟨t, _, rfl⟩ := List.mem_map.mp hx
    rfl)
theorem like_pts {p : Plan} (hp : p.length ≤ 40) (μ : Store) : g__law_like 12 [.tup ((pts p).map pt3), .tup ((pts p).map pt3)] μ = .ok (.bl true) μ := like12 μ (pd_pts p 9) (by
    have hl := pts_len hp
    show (decide (((pts p).map pt3).length ≤ 1000000) && ((pts p).map pt3).all (lenB 11)) = true
    rw [lb_pts p 11, decide_eq_true (show ((pts p).map pt3).length ≤ 1000000 by rw [List.length_map]; omega)]; rfl)
theorem sr_second {p : Plan} (hP : PlanOk p) {m : Bag} (r : RepB m (allO p p.length)) {s1 s4 s5 s6 : Sl} {μ : Store} (n6 : nOw s6) : ∀ (n k : Nat) (s3 : Sl), k + n ≤ p.length → ∃ s3',
    sForL (gN 3) L__law_small_right_6 (rngI ((k : Nat) + 1) n) [.fz (planD p), s1, .ow (dtD m), s3, s4, s5, s6, .no] μ = .nx [.fz (planD p), s1, .ow (dtD m), s3', s4, s5, s6, .no] μ
  | 0, k, s3, _ => ⟨s3, rfl⟩
  | n + 1, k, s3, h => by
    have hle := hP.le
    have ek : ((k : Nat) : Int) + 1 = ((k + 1 : Nat) : Int) := by omega
    obtain ⟨s3', e⟩ := sr_second hP r (s1 := s1) (s4 := s4) (s5 := s5) (s6 := s6) (μ := μ) n6 n (k + 1) (.fz (.int ((k + 1 : Nat)))) (by omega)
    refine ⟨s3', ?_⟩
    show sForL _ _ (.int (((k : Nat) : Int) + 1) :: rngI (((k : Nat) : Int) + 1 + 1) n) _ μ = _
    rw [ek, forL_cons (ρ1 := [.fz (planD p), s1, .ow (dtD m), .fz (.int ((k + 1 : Nat))), s4, s5, s6, .no]) (ρ2 := [.fz (planD p), s1, .ow (dtD m), .fz (.int ((k + 1 : Nat))), s4, s5, s6, .no]) (μ2 := μ) rfl ?_, e]
    have h1 := open_counts_spec hP (m := k + 1) (a := opAt p [1] (k + 1)) (opAt_get (by omega)) μ
    have h2 := sr_c5 r (k := k + 1) (by omega) (by omega) hle n6 (s0 := .fz (planD p)) (s1 := s1) (s4 := s4) (s5 := s5) (s6 := s6) (μ := μ)
    have h3 := like_ints (opAt p [1] (k + 1)) (by rw [opAt_len _ _ _ (by omega)]; simp; omega) μ
    unfold intsD at h2
    generalize hK : ((k + 1 : Nat) : Int) = K at h1 h2 ⊢
    simp [h1, h2, tupleD, h3]
theorem small_right_spec {p : Plan} (hP : PlanOk p) (h6 : p.length ≤ 6) (μ : Store) : g__law_small_right [planD p] μ = .ok (.bl true) μ := by
  have el : lenD [planD p] = some (.int (p.length : Nat)) := by
    show some (D.int ((p.map pairI).length : Nat)) = _
    rw [List.length_map]
  obtain ⟨m1, m2, s3, s4, s5, s6, e, r1, r2, n3, n6⟩ := sr_all (p := p) (μ := μ) h6 p.length 0 [] [] .no .no .no .no (by omega) RepB.nil RepB.nil (fun d z => by cases z) (fun d z => by cases z)
  rw [Nat.zero_add] at r1 r2
  obtain ⟨s3', e2⟩ := sr_second hP r2 (s1 := .fz (dtD m1)) (s4 := s4) (s5 := s5) (s6 := s6) (μ := μ) n6 p.length 0 s3 (by omega)
  have hr1 := rgOk_int (i := 1) (by omega) (by omega)
  have hr2 := rgOk_int (i := (p.length : Nat) + 1) (by omega) (by omega)
  have hs : ∀ s1 s2 s3 s4 s5 s6 : Sl, iRg2 (lCons (xC (.int 1)) (lCons (xBin addD (xCb lenD (lCons (xVar 0) lNil)) (xC (.int 1))) lNil)) [.fz (planD p), s1, s2, s3, s4, s5, s6, .no] μ = .ok (rngI 1 p.length) μ := by
    intro s1 s2 s3 s4 s5 s6
    unfold iRg2
    have : ((p.length : Nat) : Int) + 1 - 1 = (p.length : Nat) := by omega
    simp [el, hr1, hr2, rangeD_rng, this]
  have h4 := sr_c4 r1 hP.le n3 n6 (s0 := .fz (planD p)) (s2 := .ow (dtD m2)) (s3 := s3) (s4 := s4) (s5 := s5) (s6 := s6) (μ := μ)
  have h5 := end_points_spec hP μ
  have h6' := like_pts hP.le μ
  have z0 : D.dt [] [] = dtD [] := rfl
  have z1 : ((0 : Nat) : Int) + 1 = 1 := rfl
  rw [z1] at e e2
  unfold g__law_small_right F__law_small_right
  simp [hs, z0, e]
  simp [frzE, h5, h4, tupleD, h6', hs, e2]
end K75
set_option Elab.async false
set_option linter.all false
set_option maxRecDepth 100000
set_option maxHeartbeats 2000000
namespace K75
open PySem DC
/-! ### the law -/
theorem pow18 : powD (.int 10) (.int 18) = some (.int 1000000000000000000) := rfl
theorem cup_spec (ns : List Int) (hl : ns.length ≤ 63) (μ : Store) : ∃ a b : Int, g__law_cup [.scr ns] μ = .ok (.lst [.int a, .int b]) μ ∧ 0 ≤ a ∧ 0 ≤ b := by
  obtain ⟨z, hz⟩ : ∃ z : Int, ixS μ (.lst (ns.map D.int ++ [.int 0])) (.int 0) = some (.int z) := by
    cases ns with
    | nil => exact ⟨0, rfl⟩
    | cons n ns => exact ⟨n, by
        show L2.atI (D.int n :: (ns.map D.int ++ [.int 0])) ((0 : Nat) : Int) = _
        exact L2.atI_nat rfl⟩
  have ha := addL_ok (xs := ns.map D.int) (ys := [.int 0]) (by simp; omega)
  have hc : 0 ≤ (if z < 0 then -z else z) := by split <;> omega
  generalize hcc : (if z < 0 then -z else z) = c at hc
  have hm := ev_mul (i := c) (j := 283) (mulOk_r (by decide))
  have h1 := ev_mod (i := c * 283 + 3907) (j := 2077503167) (by decide)
  have h2 := ev_div (i := c) (j := 73) (by decide) (by decide)
  have b0 : 0 ≤ (c * 283 + 3907) % 2077503167 := Int.emod_nonneg _ (by decide)
  by_cases hb : (1000000000000000000 : Int) ≤ c
  · refine ⟨c / 73, (c * 283 + 3907) % 2077503167 + 167, ?_, Int.ediv_nonneg hc (by decide), by omega⟩
    unfold g__law_cup F__law_cup bodyF
    simp [listD, ha, hz, hcc, pow18, hm, h1, h2, hb]
  · refine ⟨0, (c * 283 + 3907) % 2077503167 + 167, ?_, Int.le_refl _, by omega⟩
    unfold g__law_cup F__law_cup bodyF
    simp [listD, ha, hz, hcc, pow18, hm, h1, h2, hb]
abbrev some3 : Plan := [(-1, 2), (0, 2), (1, 2)]
theorem some3_ok : PlanOk some3 where
  pos := by decide
  le := by decide
  ok := fun x hx => by
    simp at hx
    rcases hx with rfl | rfl | rfl <;> (refine ⟨?_, ?_, ?_⟩ <;> decide)
  last := fun x hx => by cases hx; rfl
theorem one1_ok : PlanOk [(-1, 0)] := ⟨by decide, by decide, fun x hx => by simp at hx; subst hx; (refine ⟨?_, ?_, ?_⟩ <;> decide), fun x hx => by cases hx; rfl⟩
theorem one2_ok : PlanOk [(1, 2)] := ⟨by decide, by decide, fun x hx => by simp at hx; subst hx; (refine ⟨?_, ?_, ?_⟩ <;> decide), fun x hx => by cases hx; rfl⟩
def told1 : List D := [.bl true, .bl false, .non, .tup [.int 2, .str "up"], .tup [.int 3, .str "down"]]
def told2 : List D := [.tup [.tup [.int 2, .int 0, .int 1], .tup [.int 2, .int 2, .int 1], .tup [.int 3, .int 1, .int 2], .tup [.int 3, .int 2, .int 2]], .tup [.int 1], .tup [.int 0, .int 2, .int 0], .tup [.int 0, .int 0, .int 0, .int 0], .tup [.tup [.int 1, .int 0, .int 1], .tup [.int 1, .int 1, .int 1]], .tup [.int 1, .str "down"]]
theorem told_a (μ : Store) : g_is_end_plan [planD some3] μ = .ok (.bl true) μ := by
  have := is_end_spec (n := 1) (planD_pd some3) μ
  rw [(okPlan_iff some3).mpr some3_ok] at this
  exact this
theorem told_b (μ : Store) : g_is_end_plan [.tup [.tup [.int (-1), .int 2]]] μ = .ok (.bl false) μ := by
  have := is_end_spec (n := 1) (planD_pd [(-1, 2)]) μ
  have e : okPlanB (planD [(-1, 2)]) = false := by
    cases h : okPlanB (planD [(-1, 2)]) with
    | false => rfl
    | true =>
      have := ((okPlan_iff [(-1, 2)]).mp h).last _ rfl
      exact absurd this (by decide)
  rw [e] at this
  exact this
theorem ud_rows : (("ud" : Str)) = rowS [true, false] ∧ (("uud" : Str)) = rowS [true, true, false] ∧ (("udd" : Str)) = rowS [true, false, false] ∧ (("u" : Str)) = rowS [true] := by decide +kernel
theorem told_c (μ : Store) : g_end_of_row [planD some3, .str "ud"] μ = .ok .non μ := by
  rw [ud_rows.1, end_of_row_spec some3_ok (by decide)]
  rfl
theorem told_d (μ : Store) : g_end_of_row [planD some3, .str "uud"] μ = .ok (.tup [.int 2, .str "up"]) μ := by
  rw [ud_rows.2.1, end_of_row_spec some3_ok (by decide)]
  rfl
theorem told_e (μ : Store) : g_end_of_row [planD some3, .str "udd"] μ = .ok (.tup [.int 3, .str "down"]) μ := by
  rw [ud_rows.2.2.1, end_of_row_spec some3_ok (by decide)]
  rfl
theorem told_f (μ : Store) : g_end_points [planD some3] μ = .ok (.tup [.tup [.int 2, .int 0, .int 1], .tup [.int 2, .int 2, .int 1], .tup [.int 3, .int 1, .int 2], .tup [.int 3, .int 2, .int 2]]) μ := by
  rw [end_points_spec some3_ok]
  rfl
theorem told_g (μ : Store) : g_open_counts [planD some3, .int 0] μ = .ok (.tup [.int 1]) μ := open_counts_spec some3_ok (m := 0) (a := [1]) rfl μ
theorem told_h (μ : Store) : g_open_counts [planD some3, .int 2] μ = .ok (.tup [.int 0, .int 2, .int 0]) μ := open_counts_spec some3_ok (m := 2) (a := [0, 2, 0]) rfl μ
theorem told_i (μ : Store) : g_open_counts [planD some3, .int 3] μ = .ok (.tup [.int 0, .int 0, .int 0, .int 0]) μ := open_counts_spec some3_ok (m := 3) (a := [0, 0, 0, 0]) rfl μ
theorem told_j (μ : Store) : g_end_points [.tup [.tup [.int (-1), .int 0]]] μ = .ok (.tup [.tup [.int 1, .int 0, .int 1], .tup [.int 1, .int 1, .int 1]]) μ := by
  have := end_points_spec one1_ok μ
  exact this
theorem told_k (μ : Store) : g_end_of_row [.tup [.tup [.int 1, .int 2]], .str "u"] μ = .ok (.tup [.int 1, .str "down"]) μ := by
  rw [ud_rows.2.2.2]
  exact end_of_row_spec one2_ok (bs := [true]) (by decide) μ
theorem told1_like (μ : Store) : g__law_like 12 [.lst told1, .lst told1] μ = .ok (.bl true) μ := like12 μ rfl rfl
theorem told2_like (μ : Store) : g__law_like 12 [.lst told2, .lst told2] μ = .ok (.bl true) μ := like12 μ rfl rfl
/-- slots of the law that are not own -/
def nOws (l : List Sl) : Prop := ∀ s, s ∈ l → nOw s
theorem loop1 {s0 s2 s3 : Sl} : ∀ (ms : List Int) (s4 s5 : Sl) (μ : Store), (∀ m, m ∈ ms → 0 < m ∧ m ≤ 40) → CupOk μ → ∃ s4' s5' μ', sForL (gN 4) L_law_1 (ms.map D.int) [s0, .fz (.own 0), s2, s3, s4, s5, .no, .no, .no, .no] μ = .nx [s0, .fz (.own 0), s2, s3, s4', s5', .no, .no, .no, .no] μ' ∧ CupOk μ'
  | [], s4, s5, μ, _, hc => ⟨s4, s5, μ, rfl, hc⟩
  | m :: ms, s4, s5, μ, hm, hc => by
    obtain ⟨m0, m1⟩ := hm m (by simp)
    obtain ⟨p, μ1, e1, c1, hP, _⟩ := plan_spec hc m0 m1
    obtain ⟨μ2, e2, c2⟩ := right_spec hP c1
    obtain ⟨μ3, e3, c3⟩ := judged_spec hP c2
    obtain ⟨s4', s5', μ', e, c⟩ := loop1 (s0 := s0) (s2 := s2) (s3 := s3) ms (.fz (.int m)) (.fz (planD p)) μ3 (fun x hx => hm x (List.mem_cons_of_mem _ hx)) c3
    refine ⟨s4', s5', μ', ?_, c⟩
    rw [List.map_cons, forL_cons (ρ1 := [s0, .fz (.own 0), s2, s3, .fz (.int m), s5, .no, .no, .no, .no]) (ρ2 := [s0, .fz (.own 0), s2, s3, .fz (.int m), .fz (planD p), .no, .no, .no, .no]) (μ2 := μ3) rfl ?_, e]
    simp [e1, e2, e3]
theorem loop2 {s0 s2 s3 s4 s5 : Sl} : ∀ (ds : List D) (s6 : Sl) (μ : Store), CupOk μ → ∃ s6' μ', sForL (gN 6) L_law_2 ds [s0, .fz (.own 0), s2, s3, s4, s5, s6, .no, .no, .no] μ = .nx [s0, .fz (.own 0), s2, s3, s4, s5, s6', .no, .no, .no] μ' ∧ CupOk μ'
  | [], s6, μ, hc => ⟨s6, μ, rfl, hc⟩
  | d :: ds, s6, μ, hc => by
    obtain ⟨p, μ1, e1, c1, hP, h6⟩ := plan_spec (most := 6) hc (by decide) (by decide)
    have e2 := small_right_spec hP (by omega) μ1
    obtain ⟨s6', μ', e, c⟩ := loop2 (s0 := s0) (s2 := s2) (s3 := s3) (s4 := s4) (s5 := s5) ds (.fz d) μ1 c1
    refine ⟨s6', μ', ?_, c⟩
    rw [forL_cons (ρ1 := [s0, .fz (.own 0), s2, s3, s4, s5, .fz d, .no, .no, .no]) (ρ2 := [s0, .fz (.own 0), s2, s3, s4, s5, .fz d, .no, .no, .no]) (μ2 := μ1) rfl ?_, e]
    simp [e1, e2]
theorem ev_prom {F : SD} {ρ : DC.Env} {μ μ' : Store} {i : Nat} {a b : Int} (h : ρ[i]? = some (.ow (.lst [.int a, .int b]))) (e : F (ρ.set i (.fz (.own μ.length))) (μ ++ [[a, b]]) = .rt (.bl true) μ') : sProm i F ρ μ = .rt (.bl true) (μ'.take μ.length) := by
  unfold sProm
  rw [h]
  show (match D.ints [D.int a, D.int b] with
    | some ns => (match F (ρ.set i (.fz (.own μ.length))) (μ ++ [ns]) with
      | .rt (.bl b) μ' => SRes.rt (.bl b) (μ'.take μ.length)
      | _ => .fail)
    | none => .fail) = _
  have : D.ints [D.int a, D.int b] = some [a, b] := rfl
  rw [this]
  show (match F (ρ.set i (.fz (.own μ.length))) (μ ++ [[a, b]]) with
      | .rt (.bl b) μ' => SRes.rt (.bl b) (μ'.take μ.length)
      | _ => .fail) = _
  rw [e]
theorem law_true (ns : List Int) (hl : ns.length ≤ 63) : g_law [.scr ns] [] = .ok (.bl true) [] := by
  obtain ⟨a, b, e0, a0, b0⟩ := cup_spec ns hl []
  have c0 : CupOk [[a, b]] := ⟨a, b, rfl, a0, b0⟩
  unfold g_law F_law
  have hS : (.tup [.tup [.int (-1), .int 2], .tup [.int 0, .int 2], .tup [.int 1, .int 2]] : D) = planD some3 := rfl
  have t1 : (.lst [.bl true, .bl false, .non, .tup [.int 2, .str "up"], .tup [.int 3, .str "down"]] : D) = .lst told1 := rfl
  have t2 : (.lst [.tup [.tup [.int 2, .int 0, .int 1], .tup [.int 2, .int 2, .int 1], .tup [.int 3, .int 1, .int 2], .tup [.int 3, .int 2, .int 2]], .tup [.int 1], .tup [.int 0, .int 2, .int 0], .tup [.int 0, .int 0, .int 0, .int 0], .tup [.tup [.int 1, .int 0, .int 1], .tup [.int 1, .int 1, .int 1]], .tup [.int 1, .str "down"]] : D) = .lst told2 := rfl
  obtain ⟨s4, s5, μ1, l1, c1⟩ := loop1 (s0 := .fz (.scr ns)) (s2 := .fz (planD some3)) (s3 := .fz (.lst told2)) [2, 5, 12, 40] .no .no [[a, b]] (by decide) c0
  obtain ⟨s6, μ2, l2, c2⟩ := loop2 (s0 := .fz (.scr ns)) (s2 := .fz (planD some3)) (s3 := .fz (.lst told2)) (s4 := s4) (s5 := s5) (rangeD 0 2) .no μ1 c1
  obtain ⟨μ3, l3⟩ := last_part (s0 := .fz (.scr ns)) (s2 := .fz (planD some3)) (s3 := .fz (.lst told2)) (s4 := s4) (s5 := s5) (s6 := s6) c2
  have hl1 : sForL (gN 4) L_law_1 [.int 2, .int 5, .int 12, .int 40] [.fz (.scr ns), .fz (.own 0), .fz (planD some3), .fz (.lst told2), .no, .no, .no, .no, .no, .no] [[a, b]] = _ := l1
  have hr : iRg1 (lCons (xC (.int 2)) lNil) = fun ρ μ => .ok (rangeD 0 2) μ := by
    funext ρ μ
    have hr2 := rgOk_int (i := 2) (by omega) (by omega)
    unfold iRg1
    simp [hr2]
  rw [ev_body]
  rw [ev_seq]
  have hh : (sAsgF 1 (xCall g__law_cup (lCons (xVar 0) lNil))) (entry 10 [.scr ns]) [] = .nx [.fz (.scr ns), .ow (.lst [.int a, .int b]), .no, .no, .no, .no, .no, .no, .no, .no] [] := by
    simp [e0]
  rw [hh, seq_nx, ev_prom (a := a) (b := b) (μ' := μ3) rfl]
  · rfl
  · show _ = SRes.rt (.bl true) μ3
    unfold lastPart at l3
    simp [hS, told_a, told_b, told_c, told_d, told_e, t1, told1_like]
    simp [told_f, told_g, told_h, told_i, told_j, told_k, t2, told2_like]
    simp only [hl1, hr]
    simp only [seq_nx, ev_st_ok, ev_seq, ev_for, l2]
    exact l3
end K75
set_option Elab.async false
set_option linter.all false
set_option maxRecDepth 100000
set_option maxHeartbeats 4000000
namespace K75
open PySem PySem.Spec PyProof.Rows L2 DC
structure Txt (K : PySem.W.Frag) (mg : Str → Option Value) (ad : Nat → Addr) (fd : Nat → FuncData) : Prop where
  m__law_cup : mg "_law_cup" = some (.ref (ad 0))
  k__law_cup : PySem.W.keepIn K (.ref (ad 0)) = true
  b__law_cup : Binds K (fd 0) ["script"] []
  m__law_roll : mg "_law_roll" = some (.ref (ad 1))
  k__law_roll : PySem.W.keepIn K (.ref (ad 1)) = true
  b__law_roll : Binds K (fd 1) ["cup", "many"] []
  m__law_sort : mg "_law_sort" = some (.ref (ad 2))
  k__law_sort : PySem.W.keepIn K (.ref (ad 2)) = true
  b__law_sort : Binds K (fd 2) ["value"] []
  m__law_like : mg "_law_like" = some (.ref (ad 3))
  k__law_like : PySem.W.keepIn K (.ref (ad 3)) = true
  b__law_like : Binds K (fd 3) ["one", "other"] []
  m_is_tuple_of : mg "is_tuple_of" = some (.ref (ad 4))
  k_is_tuple_of : PySem.W.keepIn K (.ref (ad 4)) = true
  b_is_tuple_of : Binds K (fd 4) ["value", "low", "high"] []
  m_is_integer : mg "is_integer" = some (.ref (ad 5))
  k_is_integer : PySem.W.keepIn K (.ref (ad 5)) = true
  b_is_integer : Binds K (fd 5) ["value"] []
  m_is_whole : mg "is_whole" = some (.ref (ad 6))
  k_is_whole : PySem.W.keepIn K (.ref (ad 6)) = true
  b_is_whole : Binds K (fd 6) ["value", "low", "high"] []
  m_fits_bounds : mg "fits_bounds" = some (.ref (ad 7))
  k_fits_bounds : PySem.W.keepIn K (.ref (ad 7)) = true
  b_fits_bounds : Binds K (fd 7) ["value"] []
  m_fits_end_plan : mg "fits_end_plan" = some (.ref (ad 8))
  k_fits_end_plan : PySem.W.keepIn K (.ref (ad 8)) = true
  b_fits_end_plan : Binds K (fd 8) ["value"] []
  m_is_end_plan : mg "is_end_plan" = some (.ref (ad 9))
  k_is_end_plan : PySem.W.keepIn K (.ref (ad 9)) = true
  b_is_end_plan : Binds K (fd 9) ["value"] []
  m_need_end_plan : mg "need_end_plan" = some (.ref (ad 10))
  k_need_end_plan : PySem.W.keepIn K (.ref (ad 10)) = true
  b_need_end_plan : Binds K (fd 10) ["value"] []
  m_end_of : mg "end_of" = some (.ref (ad 11))
  k_end_of : PySem.W.keepIn K (.ref (ad 11)) = true
  b_end_of : Binds K (fd 11) ["plan", "row"] []
  m_is_word : mg "is_word" = some (.ref (ad 12))
  k_is_word : PySem.W.keepIn K (.ref (ad 12)) = true
  b_is_word : Binds K (fd 12) ["value", "signs", "low", "high"] []
  m_end_of_row : mg "end_of_row" = some (.ref (ad 13))
  k_end_of_row : PySem.W.keepIn K (.ref (ad 13)) = true
  b_end_of_row : Binds K (fd 13) ["plan", "row"] []
  m_layers_of_plan : mg "layers_of_plan" = some (.ref (ad 14))
  k_layers_of_plan : PySem.W.keepIn K (.ref (ad 14)) = true
  b_layers_of_plan : Binds K (fd 14) ["plan"] []
  m_points_in_plan : mg "points_in_plan" = some (.ref (ad 15))
  k_points_in_plan : PySem.W.keepIn K (.ref (ad 15)) = true
  b_points_in_plan : Binds K (fd 15) ["plan"] []
  m_end_points : mg "end_points" = some (.ref (ad 16))
  k_end_points : PySem.W.keepIn K (.ref (ad 16)) = true
  b_end_points : Binds K (fd 16) ["plan"] []
  m_need_whole : mg "need_whole" = some (.ref (ad 17))
  k_need_whole : PySem.W.keepIn K (.ref (ad 17)) = true
  b_need_whole : Binds K (fd 17) ["value", "low", "high"] []
  m_open_counts : mg "open_counts" = some (.ref (ad 18))
  k_open_counts : PySem.W.keepIn K (.ref (ad 18)) = true
  b_open_counts : Binds K (fd 18) ["plan", "many"] []
  m__law_plan : mg "_law_plan" = some (.ref (ad 19))
  k__law_plan : PySem.W.keepIn K (.ref (ad 19)) = true
  b__law_plan : Binds K (fd 19) ["cup", "most"] []
  m__law_rows : mg "_law_rows" = some (.ref (ad 20))
  k__law_rows : PySem.W.keepIn K (.ref (ad 20)) = true
  b__law_rows : Binds K (fd 20) ["many"] []
  m__law_end : mg "_law_end" = some (.ref (ad 21))
  k__law_end : PySem.W.keepIn K (.ref (ad 21)) = true
  b__law_end : Binds K (fd 21) ["plan", "row"] []
  m__law_small_right : mg "_law_small_right" = some (.ref (ad 22))
  k__law_small_right : PySem.W.keepIn K (.ref (ad 22)) = true
  b__law_small_right : Binds K (fd 22) ["plan"] []
  m__law_points : mg "_law_points" = some (.ref (ad 23))
  k__law_points : PySem.W.keepIn K (.ref (ad 23)) = true
  b__law_points : Binds K (fd 23) ["plan"] []
  m__law_some : mg "_law_some" = some (.ref (ad 24))
  k__law_some : PySem.W.keepIn K (.ref (ad 24)) = true
  b__law_some : Binds K (fd 24) ["cup", "things"] []
  m__law_row : mg "_law_row" = some (.ref (ad 25))
  k__law_row : PySem.W.keepIn K (.ref (ad 25)) = true
  b__law_row : Binds K (fd 25) ["cup", "most"] []
  m__law_power : mg "_law_power" = some (.ref (ad 26))
  k__law_power : PySem.W.keepIn K (.ref (ad 26)) = true
  b__law_power : Binds K (fd 26) ["number", "times"] []
  m__law_right : mg "_law_right" = some (.ref (ad 27))
  k__law_right : PySem.W.keepIn K (.ref (ad 27)) = true
  b__law_right : Binds K (fd 27) ["cup", "plan"] []
  m__law_bent : mg "_law_bent" = some (.ref (ad 28))
  k__law_bent : PySem.W.keepIn K (.ref (ad 28)) = true
  b__law_bent : Binds K (fd 28) ["cup", "value"] []
  m__law_is_plan : mg "_law_is_plan" = some (.ref (ad 29))
  k__law_is_plan : PySem.W.keepIn K (.ref (ad 29)) = true
  b__law_is_plan : Binds K (fd 29) ["value"] []
  m__law_judged : mg "_law_judged" = some (.ref (ad 30))
  k__law_judged : PySem.W.keepIn K (.ref (ad 30)) = true
  b__law_judged : Binds K (fd 30) ["cup", "plan"] []
  m__law_ways : mg "_law_ways" = some (.ref (ad 31))
  k__law_ways : PySem.W.keepIn K (.ref (ad 31)) = true
  b__law_ways : Binds K (fd 31) ["many", "some"] []
  z_abs : mg "abs" = none
  z_all : mg "all" = none
  z_bool : mg "bool" = none
  z_enumerate : mg "enumerate" = none
  z_int : mg "int" = none
  z_isinstance : mg "isinstance" = none
  z_len : mg "len" = none
  z_list : mg "list" = none
  z_min : mg "min" = none
  z_range : mg "range" = none
  z_sorted : mg "sorted" = none
  z_str : mg "str" = none
  z_sum : mg "sum" = none
  z_tuple : mg "tuple" = none
  z_zip : mg "zip" = none
  c_LEAST : ∃ t : Tok, mg "LEAST" = some (.int (-1) t)
  c_MOST_BOUND : ∃ t : Tok, mg "MOST_BOUND" = some (.int 41 t)
  c_SIGNS : ∃ t : Tok, mg "SIGNS" = some (.str "ud" t)
  c_TRIALS : ∃ t : Tok, mg "TRIALS" = some (.int 40 t)
section
variable {P : Program} {w : World} {K : PySem.W.Frag} {mg : Str → Option Value} {base : Heap} {cl : Nat → Addr} {ad : Nat → Addr} {fd : Nat → FuncData}
theorem ok__law_cup (T : Txt K mg ad fd) (F : Fun K "_law_cup" "_law_cup" st__law_cup (ad 0) (fd 0)) : FnOk P w K mg base (L2.CX P w) 1 (ad 0) (fd 0) ["script"] (SpF K cl 1 g__law_cup) := show FnOk P w K mg base (L2.CX P w) 1 (ad 0) (fd 0) ["script"] (SpF K cl 1 (bodyF F__law_cup 2)) from okF2 (k := 0) (N := ["script", "cell"]) (ps := ["script"]) F__law_cup F sc__law_cup rfl rfl (by decide) fun cdv A outer s H E hr => by
  have nd := sc__law_cup.nd
  have hu := hu_of hr
  have hu64 := hr.units
  have tk : Takes (cxOf (L2.CX P w) P w K mg base ["script", "cell"] "_law_cup" (defScope st__law_cup) (ad 0) cdv A outer s H E) (WE0 E) := takes_of rfl rfl rfl rfl
  have ps : PassesOwn (model P w) (cxOf (L2.CX P w) P w K mg base ["script", "cell"] "_law_cup" (defScope st__law_cup) (ad 0) cdv A outer s H E).A (cxOf (L2.CX P w) P w K mg base ["script", "cell"] "_law_cup" (defScope st__law_cup) (ad 0) cdv A outer s H E).env (cxOf (L2.CX P w) P w K mg base ["script", "cell"] "_law_cup" (defScope st__law_cup) (ad 0) cdv A outer s H E).xe := passes_of rfl
  exact (hSeqF (hCons (hAsg (ps_set (i := 1) nd rfl (.inl rfl) (dCb call_abs c_abs (by rfl) T.z_abs (by decide +kernel) (aCons (dIx (dBin op_addD o_add (dFE (dCtyF call_list_of c_list (by rfl) T.z_list (by decide +kernel) (aCons (dVar (pv 0)) aNil))) (dFE (dLst (aCons dInt aNil)))) dInt (fun _ _ => rfl)) aNil))))
    (hOne (hRetF (dLst (aCons (dIf (bCmp op_ge o_cmpI (dVar (pv 1)) (dBin op_pow o_pow dInt dInt) (nomark _)) (dBin op_divD o_div (dVar (pv 1)) dInt) dInt) (aCons (dBin op_addD o_add (dBin op_mod o_mod (dCty call_int1 c_int (by rfl) T.z_int (by decide +kernel) (aCons (dBin op_addD o_add (dBin op_mulD o_mul (dVar (pv 1)) dInt) dInt) aNil)) dInt) dInt) aNil)))))))
theorem ok__law_roll (T : Txt K mg ad fd) (F : Fun K "_law_roll" "_law_roll" st__law_roll (ad 1) (fd 1)) : FnOk P w K mg base (L2.CX P w) 1 (ad 1) (fd 1) ["cup", "many"] (SpD K cl 2 g__law_roll) := show FnOk P w K mg base (L2.CX P w) 1 (ad 1) (fd 1) ["cup", "many"] (SpD K cl 2 (bodyD F__law_roll 4)) from okD2 (k := 0) (N := ["cup", "many", "found", "deep"]) (ps := ["cup", "many"]) F__law_roll F sc__law_roll rfl rfl (by decide) fun cdv A outer s H E hr => by
  have nd := sc__law_roll.nd
  have hu := hu_of hr
  have hu64 := hr.units
  have tk : Takes (cxOf (L2.CX P w) P w K mg base ["cup", "many", "found", "deep"] "_law_roll" (defScope st__law_roll) (ad 1) cdv A outer s H E) (WE0 E) := takes_of rfl rfl rfl rfl
  have ps : PassesOwn (model P w) (cxOf (L2.CX P w) P w K mg base ["cup", "many", "found", "deep"] "_law_roll" (defScope st__law_roll) (ad 1) cdv A outer s H E).A (cxOf (L2.CX P w) P w K mg base ["cup", "many", "found", "deep"] "_law_roll" (defScope st__law_roll) (ad 1) cdv A outer s H E).env (cxOf (L2.CX P w) P w K mg base ["cup", "many", "found", "deep"] "_law_roll" (defScope st__law_roll) (ad 1) cdv A outer s H E).xe := passes_of rfl
  exact (hCons (hIf (bCmp op_gt o_cmpI (dIx (dVar (pv 0)) dInt (fun _ _ => rfl)) dInt (nomark _)) (hCons (hAsg (ps_set (i := 2) nd rfl (.inl rfl) (dBin op_mod o_mod (dCty call_int1 c_int (by rfl) T.z_int (by decide +kernel) (aCons (dIx (dVar (pv 0)) dInt (fun _ _ => rfl)) aNil)) (dVar (pv 1)))))
    (hCons (hSetI (ps_asg (dBin op_divD o_div (dIx (dVar (pv 0)) dInt (fun _ _ => rfl)) (dVar (pv 1))) (pg_sub (pv 0) dInt set_list)))
    (hOne (hRet (dVar (pv 2)))))) hNil)
    (hCons (hSetI (ps_asg (dBin op_mod o_mod (dCty call_int1 c_int (by rfl) T.z_int (by decide +kernel) (aCons (dBin op_addD o_add (dBin op_mulD o_mul (dIx (dVar (pv 0)) dInt (fun _ _ => rfl)) dInt) dInt) aNil)) dInt) (pg_sub (pv 0) dInt set_list)))
    (hCons (hAsg (ps_set (i := 3) nd rfl (.inl rfl) (dBin op_mod o_mod (dCty call_int1 c_int (by rfl) T.z_int (by decide +kernel) (aCons (dBin op_mulD o_mul (dIx (dVar (pv 0)) dInt (fun _ _ => rfl)) (dBin op_addD o_add (dIx (dVar (pv 0)) dInt (fun _ _ => rfl)) dInt)) aNil)) dInt)))
    (hOne (hRet (dBin op_mod o_mod (dCty call_int1 c_int (by rfl) T.z_int (by decide +kernel) (aCons (dBin op_divD o_div (dVar (pv 3)) dInt) aNil)) (dVar (pv 1))))))))
theorem ok__law_sort (T : Txt K mg ad fd) (F : Fun K "_law_sort" "_law_sort" st__law_sort (ad 2) (fd 2)) : FnOk P w K mg base (L2.CX P w) 1 (ad 2) (fd 2) ["value"] (SpD K cl 1 g__law_sort) := show FnOk P w K mg base (L2.CX P w) 1 (ad 2) (fd 2) ["value"] (SpD K cl 1 (bodyD F__law_sort 1)) from okD2 (k := 0) (N := ["value"]) (ps := ["value"]) F__law_sort F sc__law_sort rfl rfl (by decide) fun cdv A outer s H E hr => by
  have nd := sc__law_sort.nd
  have hu := hu_of hr
  have hu64 := hr.units
  have tk : Takes (cxOf (L2.CX P w) P w K mg base ["value"] "_law_sort" (defScope st__law_sort) (ad 2) cdv A outer s H E) (WE0 E) := takes_of rfl rfl rfl rfl
  have ps : PassesOwn (model P w) (cxOf (L2.CX P w) P w K mg base ["value"] "_law_sort" (defScope st__law_sort) (ad 2) cdv A outer s H E).A (cxOf (L2.CX P w) P w K mg base ["value"] "_law_sort" (defScope st__law_sort) (ad 2) cdv A outer s H E).env (cxOf (L2.CX P w) P w K mg base ["value"] "_law_sort" (defScope st__law_sort) (ad 2) cdv A outer s H E).xe := passes_of rfl
  exact (hCons (hIf (bPW (wOr (bCmp op_isN o_isN (dVar (pv 0)) dNon (nomark _)) (wOr1 (bValE (dIsi Ty.bool (by rfl) T.z_isinstance (by rfl) T.z_bool (by decide +kernel) (dVar (pv 0))))))) (hOne (hRet (dIf (bCmp op_isN o_isN (dVar (pv 0)) dNon (nomark _)) dInt dInt))) hNil)
    (hCons (hIf (bPW (wOr (bValE (dIsi Ty.int (by rfl) T.z_isinstance (by rfl) T.z_int (by decide +kernel) (dVar (pv 0)))) (wOr1 (bValE (dIsi Ty.str (by rfl) T.z_isinstance (by rfl) T.z_str (by decide +kernel) (dVar (pv 0))))))) (hOne (hRet (dIf (bValE (dIsi Ty.int (by rfl) T.z_isinstance (by rfl) T.z_int (by decide +kernel) (dVar (pv 0)))) dInt dInt))) hNil)
    (hOne (hRet (dIf (bValE (dIsi Ty.tuple (by rfl) T.z_isinstance (by rfl) T.z_tuple (by decide +kernel) (dVar (pv 0)))) dInt (dIf (bValE (dIsi Ty.list (by rfl) T.z_isinstance (by rfl) T.z_list (by decide +kernel) (dVar (pv 0)))) dInt dInt))))))
theorem ok__law_like (T : Txt K mg ad fd) (F : Fun K "_law_like" "_law_like" st__law_like (ad 3) (fd 3)) (G__law_sort : FnOk P w K mg base (L2.CX P w) 1 (ad 2) (fd 2) ["value"] (SpD K cl 1 g__law_sort)) : ∀ n : Nat, FnOk P w K mg base (L2.CX P w) (n + 2) (ad 3) (fd 3) ["one", "other"] (SpD K cl 2 (g__law_like n))
  | 0 => (ok02 (k := 1) F sc__law_like rfl).mono (by omega)
  | n + 1 => by
    have G__law_like := ok__law_like T F G__law_sort n
    refine FnOk.mono (j := n + 2 + 1) (show FnOk P w K mg base (L2.CX P w) (n + 2 + 1) (ad 3) (fd 3) ["one", "other"] (SpD K cl 2 (bodyD (F__law_like (g__law_like n)) 5)) from okD2 (k := n + 2) (N := ["one", "other", "sort", "first", "second"]) (ps := ["one", "other"]) (F__law_like (g__law_like n)) F sc__law_like rfl rfl (by decide) fun cdv A outer s H E hr => ?_) (by omega)
    have nd := sc__law_like.nd
    have hu := hu_of hr
    have hu64 := hr.units
    have tk : Takes (cxOf (L2.CX P w) P w K mg base ["one", "other", "sort", "first", "second"] "_law_like" (defScope st__law_like) (ad 3) cdv A outer s H E) (WE0 E) := takes_of rfl rfl rfl rfl
    have ps : PassesOwn (model P w) (cxOf (L2.CX P w) P w K mg base ["one", "other", "sort", "first", "second"] "_law_like" (defScope st__law_like) (ad 3) cdv A outer s H E).A (cxOf (L2.CX P w) P w K mg base ["one", "other", "sort", "first", "second"] "_law_like" (defScope st__law_like) (ad 3) cdv A outer s H E).env (cxOf (L2.CX P w) P w K mg base ["one", "other", "sort", "first", "second"] "_law_like" (defScope st__law_like) (ad 3) cdv A outer s H E).xe := passes_of rfl
    exact (hCons (hAsg (ps_set (i := 2) nd rfl (.inl rfl) (dCall G__law_sort (hr.mono (by omega)) (by rfl) T.m__law_sort T.k__law_sort T.b__law_sort tk (aCons (dVar (pv 1)) aNil) (lCons_len lNil_len))))
    (hCons (hIf (bPW (wOr (bCmp (op_neD hu64) o_ne (dCall G__law_sort (hr.mono (by omega)) (by rfl) T.m__law_sort T.k__law_sort T.b__law_sort tk (aCons (dVar (pv 0)) aNil) (lCons_len lNil_len)) (dVar (pv 2)) (nomark _)) (wOr1 (bCmp (op_eqD hu64) o_eq (dVar (pv 2)) dInt (nomark _))))) (hOne (hRet dBl)) hNil)
    (hCons (hIf (bCmp op_in_seq o_inSq (dVar (pv 2)) (dTup (aCons dInt (aCons dInt aNil))) (by with_unfolding_all rfl)) (hOne (hRet (dAnd (dCmp (op_eqD hu64) o_eq (dCb call_len c_len (by rfl) T.z_len (by decide +kernel) (aCons (dVar (pv 0)) aNil)) (dCb call_len c_len (by rfl) T.z_len (by decide +kernel) (aCons (dVar (pv 1)) aNil)) (nomark _)) (dOne (dCmp (op_eqD hu64) o_eq (dFE (dLc (pe_lc (own := [("first", 3), ("second", 4)]) rfl nd (jZipA (RZ.pi_zipA (by rfl) T.z_zip (aCons (dVar (pv 0)) (aCons (dVar (pv 1)) aNil)))) (blkOk_by (N := ["one", "other", "sort", "first", "second"]) (sc := defScope st__law_like) (by decide +kernel)) (fun _ _ _ _ _ => (kT (pg_tup rfl (kC (kN (pg_name (i := 3) nd rfl (.inl rfl))) (kC (kN (pg_name (i := 4) nd rfl (.inl rfl))) kE (pgs_cons (kN (pg_name (i := 4) nd rfl (.inl rfl))) kE)) (pgs_cons (kN (pg_name (i := 3) nd rfl (.inl rfl))) (kC (kN (pg_name (i := 4) nd rfl (.inl rfl))) kE (pgs_cons (kN (pg_name (i := 4) nd rfl (.inl rfl))) kE))))) (gs_len (gs_len gE_len)))) (fun _ _ _ _ _ => (pts_one (bNotE (bValE (dCall G__law_like (hr.mono (by omega)) (by rfl) T.m__law_like T.k__law_like T.b__law_like takes0 (aCons (dVar (pv 3)) (aCons (dVar (pv 4)) aNil)) (lCons_len (lCons_len lNil_len))))))) (fun _ _ _ _ _ => dInt)))) (dFE (dLst aNil)) (nomark _)))))) hNil)
    (hOne (hRet (dCmp (op_eqD hu64) o_eq (dVar (pv 0)) (dVar (pv 1)) (nomark _)))))))
theorem ok_is_tuple_of (T : Txt K mg ad fd) (F : Fun K "is_tuple_of" "is_tuple_of" st_is_tuple_of (ad 4) (fd 4)) : FnOk P w K mg base (L2.CX P w) 1 (ad 4) (fd 4) ["value", "low", "high"] (SpD K cl 3 g_is_tuple_of) := show FnOk P w K mg base (L2.CX P w) 1 (ad 4) (fd 4) ["value", "low", "high"] (SpD K cl 3 (bodyD F_is_tuple_of 3)) from okD2 (k := 0) (N := ["value", "low", "high"]) (ps := ["value", "low", "high"]) F_is_tuple_of F sc_is_tuple_of rfl rfl (by decide) fun cdv A outer s H E hr => by
  have nd := sc_is_tuple_of.nd
  have hu := hu_of hr
  have hu64 := hr.units
  have tk : Takes (cxOf (L2.CX P w) P w K mg base ["value", "low", "high"] "is_tuple_of" (defScope st_is_tuple_of) (ad 4) cdv A outer s H E) (WE0 E) := takes_of rfl rfl rfl rfl
  have ps : PassesOwn (model P w) (cxOf (L2.CX P w) P w K mg base ["value", "low", "high"] "is_tuple_of" (defScope st_is_tuple_of) (ad 4) cdv A outer s H E).A (cxOf (L2.CX P w) P w K mg base ["value", "low", "high"] "is_tuple_of" (defScope st_is_tuple_of) (ad 4) cdv A outer s H E).env (cxOf (L2.CX P w) P w K mg base ["value", "low", "high"] "is_tuple_of" (defScope st_is_tuple_of) (ad 4) cdv A outer s H E).xe := passes_of rfl
  exact (hOne (hRet (dAnd (dIsi Ty.tuple (by rfl) T.z_isinstance (by rfl) T.z_tuple (by decide +kernel) (dVar (pv 0))) (dOne (dChain op_le o_cmpI op_le o_cmpI (dVar (pv 1)) (dCb call_len c_len (by rfl) T.z_len (by decide +kernel) (aCons (dVar (pv 0)) aNil)) (dVar (pv 2)))))))
theorem ok_is_integer (T : Txt K mg ad fd) (F : Fun K "is_integer" "is_integer" st_is_integer (ad 5) (fd 5)) : FnOk P w K mg base (L2.CX P w) 1 (ad 5) (fd 5) ["value"] (SpD K cl 1 g_is_integer) := show FnOk P w K mg base (L2.CX P w) 1 (ad 5) (fd 5) ["value"] (SpD K cl 1 (bodyD F_is_integer 1)) from okD2 (k := 0) (N := ["value"]) (ps := ["value"]) F_is_integer F sc_is_integer rfl rfl (by decide) fun cdv A outer s H E hr => by
  have nd := sc_is_integer.nd
  have hu := hu_of hr
  have hu64 := hr.units
  have tk : Takes (cxOf (L2.CX P w) P w K mg base ["value"] "is_integer" (defScope st_is_integer) (ad 5) cdv A outer s H E) (WE0 E) := takes_of rfl rfl rfl rfl
  have ps : PassesOwn (model P w) (cxOf (L2.CX P w) P w K mg base ["value"] "is_integer" (defScope st_is_integer) (ad 5) cdv A outer s H E).A (cxOf (L2.CX P w) P w K mg base ["value"] "is_integer" (defScope st_is_integer) (ad 5) cdv A outer s H E).env (cxOf (L2.CX P w) P w K mg base ["value"] "is_integer" (defScope st_is_integer) (ad 5) cdv A outer s H E).xe := passes_of rfl
  exact (hOne (hRet (dAnd (dIsi Ty.int (by rfl) T.z_isinstance (by rfl) T.z_int (by decide +kernel) (dVar (pv 0))) (dOne (dNot (dIsi Ty.bool (by rfl) T.z_isinstance (by rfl) T.z_bool (by decide +kernel) (dVar (pv 0))))))))
theorem ok_is_whole (T : Txt K mg ad fd) (F : Fun K "is_whole" "is_whole" st_is_whole (ad 6) (fd 6)) (G_is_integer : FnOk P w K mg base (L2.CX P w) 1 (ad 5) (fd 5) ["value"] (SpD K cl 1 g_is_integer)) : FnOk P w K mg base (L2.CX P w) 2 (ad 6) (fd 6) ["value", "low", "high"] (SpD K cl 3 g_is_whole) := show FnOk P w K mg base (L2.CX P w) 2 (ad 6) (fd 6) ["value", "low", "high"] (SpD K cl 3 (bodyD F_is_whole 3)) from okD2 (k := 1) (N := ["value", "low", "high"]) (ps := ["value", "low", "high"]) F_is_whole F sc_is_whole rfl rfl (by decide) fun cdv A outer s H E hr => by
  have nd := sc_is_whole.nd
  have hu := hu_of hr
  have hu64 := hr.units
  have tk : Takes (cxOf (L2.CX P w) P w K mg base ["value", "low", "high"] "is_whole" (defScope st_is_whole) (ad 6) cdv A outer s H E) (WE0 E) := takes_of rfl rfl rfl rfl
  have ps : PassesOwn (model P w) (cxOf (L2.CX P w) P w K mg base ["value", "low", "high"] "is_whole" (defScope st_is_whole) (ad 6) cdv A outer s H E).A (cxOf (L2.CX P w) P w K mg base ["value", "low", "high"] "is_whole" (defScope st_is_whole) (ad 6) cdv A outer s H E).env (cxOf (L2.CX P w) P w K mg base ["value", "low", "high"] "is_whole" (defScope st_is_whole) (ad 6) cdv A outer s H E).xe := passes_of rfl
  exact (hOne (hRet (dAnd (dCall G_is_integer (hr.mono (by omega)) (by rfl) T.m_is_integer T.k_is_integer T.b_is_integer tk (aCons (dVar (pv 0)) aNil) (lCons_len lNil_len)) (dOne (dChain op_le o_cmpI op_le o_cmpI (dVar (pv 1)) (dVar (pv 0)) (dVar (pv 2)))))))
theorem ok_fits_bounds (T : Txt K mg ad fd) (F : Fun K "fits_bounds" "fits_bounds" st_fits_bounds (ad 7) (fd 7)) (G_is_tuple_of : FnOk P w K mg base (L2.CX P w) 1 (ad 4) (fd 4) ["value", "low", "high"] (SpD K cl 3 g_is_tuple_of)) (G_is_whole : FnOk P w K mg base (L2.CX P w) 2 (ad 6) (fd 6) ["value", "low", "high"] (SpD K cl 3 g_is_whole)) : FnOk P w K mg base (L2.CX P w) 3 (ad 7) (fd 7) ["value"] (SpD K cl 1 g_fits_bounds) := show FnOk P w K mg base (L2.CX P w) 3 (ad 7) (fd 7) ["value"] (SpD K cl 1 (bodyD F_fits_bounds 2)) from okD2 (k := 2) (N := ["value", "bound"]) (ps := ["value"]) F_fits_bounds F sc_fits_bounds rfl rfl (by decide) fun cdv A outer s H E hr => by
  have nd := sc_fits_bounds.nd
  have hu := hu_of hr
  have hu64 := hr.units
  have tk : Takes (cxOf (L2.CX P w) P w K mg base ["value", "bound"] "fits_bounds" (defScope st_fits_bounds) (ad 7) cdv A outer s H E) (WE0 E) := takes_of rfl rfl rfl rfl
  have ps : PassesOwn (model P w) (cxOf (L2.CX P w) P w K mg base ["value", "bound"] "fits_bounds" (defScope st_fits_bounds) (ad 7) cdv A outer s H E).A (cxOf (L2.CX P w) P w K mg base ["value", "bound"] "fits_bounds" (defScope st_fits_bounds) (ad 7) cdv A outer s H E).env (cxOf (L2.CX P w) P w K mg base ["value", "bound"] "fits_bounds" (defScope st_fits_bounds) (ad 7) cdv A outer s H E).xe := passes_of rfl
  exact (hCons (hIf (bPW (wOr (bNotE (bValE (dCall G_is_tuple_of (hr.mono (by omega)) (by rfl) T.m_is_tuple_of T.k_is_tuple_of T.b_is_tuple_of tk (aCons (dVar (pv 0)) (aCons dInt (aCons dInt aNil))) (lCons_len (lCons_len (lCons_len lNil_len)))))) (wOr1 (bNotE (bValE (dCb (cr_all rfl) c_all (by rfl) T.z_all (by decide +kernel) (aCons (dFE (dLc (pe_lc (own := [("bound", 1)]) rfl nd (jSeq (dVar (pv 0))) (blkOk_by (N := ["value", "bound"]) (sc := defScope st_fits_bounds) (by decide +kernel)) (fun _ _ _ _ _ => (kN (pg_name (i := 1) nd rfl (.inl rfl)))) (fun _ _ _ _ _ => bNilT) (fun _ _ _ _ _ => (dCall G_is_whole (hr.mono (by omega)) (by rfl) T.m_is_whole T.k_is_whole T.b_is_whole takes0 (aCons (dVar (pv 1)) (aCons (dC (pe_glob (v := (.int (-1))) (by rfl) T.c_LEAST.choose_spec ⟨_, rfl⟩) fun _ _ => .int _) (aCons (dC (pe_glob (v := (.int 41)) (by rfl) T.c_MOST_BOUND.choose_spec ⟨_, rfl⟩) fun _ _ => .int _) aNil))) (lCons_len (lCons_len (lCons_len lNil_len)))))))) aNil))))))) (hOne (hRet dBl)) hNil)
    (hOne (hRet (dCmp op_lt o_cmpI (dIx (dVar (pv 0)) dInt (fun _ _ => rfl)) (dIx (dVar (pv 0)) dInt (fun _ _ => rfl)) (nomark _)))))
theorem ok_fits_end_plan (T : Txt K mg ad fd) (F : Fun K "fits_end_plan" "fits_end_plan" st_fits_end_plan (ad 8) (fd 8)) (G_is_tuple_of : FnOk P w K mg base (L2.CX P w) 1 (ad 4) (fd 4) ["value", "low", "high"] (SpD K cl 3 g_is_tuple_of)) (G_fits_bounds : FnOk P w K mg base (L2.CX P w) 3 (ad 7) (fd 7) ["value"] (SpD K cl 1 g_fits_bounds)) : FnOk P w K mg base (L2.CX P w) 4 (ad 8) (fd 8) ["value"] (SpD K cl 1 g_fits_end_plan) := show FnOk P w K mg base (L2.CX P w) 4 (ad 8) (fd 8) ["value"] (SpD K cl 1 (bodyD F_fits_end_plan 2)) from okD2 (k := 3) (N := ["value", "bounds"]) (ps := ["value"]) F_fits_end_plan F sc_fits_end_plan rfl rfl (by decide) fun cdv A outer s H E hr => by
  have nd := sc_fits_end_plan.nd
  have hu := hu_of hr
  have hu64 := hr.units
  have tk : Takes (cxOf (L2.CX P w) P w K mg base ["value", "bounds"] "fits_end_plan" (defScope st_fits_end_plan) (ad 8) cdv A outer s H E) (WE0 E) := takes_of rfl rfl rfl rfl
  have ps : PassesOwn (model P w) (cxOf (L2.CX P w) P w K mg base ["value", "bounds"] "fits_end_plan" (defScope st_fits_end_plan) (ad 8) cdv A outer s H E).A (cxOf (L2.CX P w) P w K mg base ["value", "bounds"] "fits_end_plan" (defScope st_fits_end_plan) (ad 8) cdv A outer s H E).env (cxOf (L2.CX P w) P w K mg base ["value", "bounds"] "fits_end_plan" (defScope st_fits_end_plan) (ad 8) cdv A outer s H E).xe := passes_of rfl
  exact (hCons (hIf (bPW (wOr (bNotE (bValE (dCall G_is_tuple_of (hr.mono (by omega)) (by rfl) T.m_is_tuple_of T.k_is_tuple_of T.b_is_tuple_of tk (aCons (dVar (pv 0)) (aCons dInt (aCons (dC (pe_glob (v := (.int 40)) (by rfl) T.c_TRIALS.choose_spec ⟨_, rfl⟩) fun _ _ => .int _) aNil))) (lCons_len (lCons_len (lCons_len lNil_len)))))) (wOr1 (bNotE (bValE (dCb (cr_all rfl) c_all (by rfl) T.z_all (by decide +kernel) (aCons (dFE (dLc (pe_lc (own := [("bounds", 1)]) rfl nd (jSeq (dVar (pv 0))) (blkOk_by (N := ["value", "bounds"]) (sc := defScope st_fits_end_plan) (by decide +kernel)) (fun _ _ _ _ _ => (kN (pg_name (i := 1) nd rfl (.inl rfl)))) (fun _ _ _ _ _ => bNilT) (fun _ _ _ _ _ => (dCall G_fits_bounds (hr.mono (by omega)) (by rfl) T.m_fits_bounds T.k_fits_bounds T.b_fits_bounds takes0 (aCons (dVar (pv 1)) aNil) (lCons_len lNil_len)))))) aNil))))))) (hOne (hRet dBl)) hNil)
    (hOne (hRet (dCmp (op_eqD hu64) o_eq (dIx (dIx (dVar (pv 0)) (dUn un_neg o_neg dInt) (fun _ _ => rfl)) dInt (fun _ _ => rfl)) (dBin op_addD o_add (dIx (dIx (dVar (pv 0)) (dUn un_neg o_neg dInt) (fun _ _ => rfl)) dInt (fun _ _ => rfl)) dInt) (nomark _)))))
theorem ok_is_end_plan (T : Txt K mg ad fd) (F : Fun K "is_end_plan" "is_end_plan" st_is_end_plan (ad 9) (fd 9)) (G_fits_end_plan : FnOk P w K mg base (L2.CX P w) 4 (ad 8) (fd 8) ["value"] (SpD K cl 1 g_fits_end_plan)) : FnOk P w K mg base (L2.CX P w) 5 (ad 9) (fd 9) ["value"] (SpD K cl 1 g_is_end_plan) := show FnOk P w K mg base (L2.CX P w) 5 (ad 9) (fd 9) ["value"] (SpD K cl 1 (bodyD F_is_end_plan 1)) from okD2 (k := 4) (N := ["value"]) (ps := ["value"]) F_is_end_plan F sc_is_end_plan rfl rfl (by decide) fun cdv A outer s H E hr => by
  have nd := sc_is_end_plan.nd
  have hu := hu_of hr
  have hu64 := hr.units
  have tk : Takes (cxOf (L2.CX P w) P w K mg base ["value"] "is_end_plan" (defScope st_is_end_plan) (ad 9) cdv A outer s H E) (WE0 E) := takes_of rfl rfl rfl rfl
  have ps : PassesOwn (model P w) (cxOf (L2.CX P w) P w K mg base ["value"] "is_end_plan" (defScope st_is_end_plan) (ad 9) cdv A outer s H E).A (cxOf (L2.CX P w) P w K mg base ["value"] "is_end_plan" (defScope st_is_end_plan) (ad 9) cdv A outer s H E).env (cxOf (L2.CX P w) P w K mg base ["value"] "is_end_plan" (defScope st_is_end_plan) (ad 9) cdv A outer s H E).xe := passes_of rfl
  exact (hOne (hRet (dCall G_fits_end_plan (hr.mono (by omega)) (by rfl) T.m_fits_end_plan T.k_fits_end_plan T.b_fits_end_plan tk (aCons (dVar (pv 0)) aNil) (lCons_len lNil_len))))
theorem ok_need_end_plan (T : Txt K mg ad fd) (F : Fun K "need_end_plan" "need_end_plan" st_need_end_plan (ad 10) (fd 10)) (G_fits_end_plan : FnOk P w K mg base (L2.CX P w) 4 (ad 8) (fd 8) ["value"] (SpD K cl 1 g_fits_end_plan)) : FnOk P w K mg base (L2.CX P w) 5 (ad 10) (fd 10) ["value"] (SpD K cl 1 g_need_end_plan) := show FnOk P w K mg base (L2.CX P w) 5 (ad 10) (fd 10) ["value"] (SpD K cl 1 (bodyD F_need_end_plan 1)) from okD2 (k := 4) (N := ["value"]) (ps := ["value"]) F_need_end_plan F sc_need_end_plan rfl rfl (by decide) fun cdv A outer s H E hr => by
  have nd := sc_need_end_plan.nd
  have hu := hu_of hr
  have hu64 := hr.units
  have tk : Takes (cxOf (L2.CX P w) P w K mg base ["value"] "need_end_plan" (defScope st_need_end_plan) (ad 10) cdv A outer s H E) (WE0 E) := takes_of rfl rfl rfl rfl
  have ps : PassesOwn (model P w) (cxOf (L2.CX P w) P w K mg base ["value"] "need_end_plan" (defScope st_need_end_plan) (ad 10) cdv A outer s H E).A (cxOf (L2.CX P w) P w K mg base ["value"] "need_end_plan" (defScope st_need_end_plan) (ad 10) cdv A outer s H E).env (cxOf (L2.CX P w) P w K mg base ["value"] "need_end_plan" (defScope st_need_end_plan) (ad 10) cdv A outer s H E).xe := passes_of rfl
  exact (hOne (hIf (bNotE (bValE (dCall G_fits_end_plan (hr.mono (by omega)) (by rfl) T.m_fits_end_plan T.k_fits_end_plan T.b_fits_end_plan tk (aCons (dVar (pv 0)) aNil) (lCons_len lNil_len)))) (hOne hFail) hNil))
theorem ok_end_of (T : Txt K mg ad fd) (F : Fun K "end_of" "end_of" st_end_of (ad 11) (fd 11)) : FnOk P w K mg base (L2.CX P w) 1 (ad 11) (fd 11) ["plan", "row"] (SpD K cl 2 g_end_of) := show FnOk P w K mg base (L2.CX P w) 1 (ad 11) (fd 11) ["plan", "row"] (SpD K cl 2 (bodyD F_end_of 5)) from okD2 (k := 0) (N := ["plan", "row", "ups", "at", "sign"]) (ps := ["plan", "row"]) F_end_of F sc_end_of rfl rfl (by decide) fun cdv A outer s H E hr => by
  have nd := sc_end_of.nd
  have hu := hu_of hr
  have hu64 := hr.units
  have tk : Takes (cxOf (L2.CX P w) P w K mg base ["plan", "row", "ups", "at", "sign"] "end_of" (defScope st_end_of) (ad 11) cdv A outer s H E) (WE0 E) := takes_of rfl rfl rfl rfl
  have ps : PassesOwn (model P w) (cxOf (L2.CX P w) P w K mg base ["plan", "row", "ups", "at", "sign"] "end_of" (defScope st_end_of) (ad 11) cdv A outer s H E).A (cxOf (L2.CX P w) P w K mg base ["plan", "row", "ups", "at", "sign"] "end_of" (defScope st_end_of) (ad 11) cdv A outer s H E).env (cxOf (L2.CX P w) P w K mg base ["plan", "row", "ups", "at", "sign"] "end_of" (defScope st_end_of) (ad 11) cdv A outer s H E).xe := passes_of rfl
  exact (hCons (hAsg (ps_set (i := 2) nd rfl (.inl rfl) dInt))
    (hCons (hFor (ps_for ps rfl (jEnumA (dVar (pv 1)) (by rfl) T.z_enumerate) (kT (pg_tup rfl (kC (kN (pg_name (i := 3) nd rfl (.inl rfl))) (kC (kN (pg_name (i := 4) nd rfl (.inl rfl))) kE (pgs_cons (kN (pg_name (i := 4) nd rfl (.inl rfl))) kE)) (pgs_cons (kN (pg_name (i := 3) nd rfl (.inl rfl))) (kC (kN (pg_name (i := 4) nd rfl (.inl rfl))) kE (pgs_cons (kN (pg_name (i := 4) nd rfl (.inl rfl))) kE))))) (gs_len (gs_len gE_len))) (hCons (hAsg (ps_set (i := 2) nd rfl (.inl rfl) (dBin op_addD o_add (dVar (pv 2)) (dCmp (op_eqD hu64) o_eq (dVar (pv 4)) (dStr) (nomark _)))))
    (hOne (hIf (bPW (wOr (bCmp op_le o_cmpI (dVar (pv 2)) (dIx (dIx (dVar (pv 0)) (dVar (pv 3)) (fun _ _ => rfl)) dInt (fun _ _ => rfl)) (nomark _)) (wOr1 (bCmp op_ge o_cmpI (dVar (pv 2)) (dIx (dIx (dVar (pv 0)) (dVar (pv 3)) (fun _ _ => rfl)) dInt (fun _ _ => rfl)) (nomark _))))) (hOne (hRet (dTup (aCons (dBin op_addD o_add (dVar (pv 3)) dInt) (aCons (dIf (bCmp op_le o_cmpI (dVar (pv 2)) (dIx (dIx (dVar (pv 0)) (dVar (pv 3)) (fun _ _ => rfl)) dInt (fun _ _ => rfl)) (nomark _)) (dStr) (dStr)) aNil))))) hNil)))))
    (hOne (hRet dNon))))
theorem ok_is_word (T : Txt K mg ad fd) (F : Fun K "is_word" "is_word" st_is_word (ad 12) (fd 12)) : FnOk P w K mg base (L2.CX P w) 1 (ad 12) (fd 12) ["value", "signs", "low", "high"] (SpD K cl 4 g_is_word) := show FnOk P w K mg base (L2.CX P w) 1 (ad 12) (fd 12) ["value", "signs", "low", "high"] (SpD K cl 4 (bodyD F_is_word 5)) from okD2 (k := 0) (N := ["value", "signs", "low", "high", "sign"]) (ps := ["value", "signs", "low", "high"]) F_is_word F sc_is_word rfl rfl (by decide) fun cdv A outer s H E hr => by
  have nd := sc_is_word.nd
  have hu := hu_of hr
  have hu64 := hr.units
  have tk : Takes (cxOf (L2.CX P w) P w K mg base ["value", "signs", "low", "high", "sign"] "is_word" (defScope st_is_word) (ad 12) cdv A outer s H E) (WE0 E) := takes_of rfl rfl rfl rfl
  have ps : PassesOwn (model P w) (cxOf (L2.CX P w) P w K mg base ["value", "signs", "low", "high", "sign"] "is_word" (defScope st_is_word) (ad 12) cdv A outer s H E).A (cxOf (L2.CX P w) P w K mg base ["value", "signs", "low", "high", "sign"] "is_word" (defScope st_is_word) (ad 12) cdv A outer s H E).env (cxOf (L2.CX P w) P w K mg base ["value", "signs", "low", "high", "sign"] "is_word" (defScope st_is_word) (ad 12) cdv A outer s H E).xe := passes_of rfl
  exact (hOne (hRet (dAnd (dIsi Ty.str (by rfl) T.z_isinstance (by rfl) T.z_str (by decide +kernel) (dVar (pv 0))) (dAnd (dChain op_le o_cmpI op_le o_cmpI (dVar (pv 2)) (dCb call_len c_len (by rfl) T.z_len (by decide +kernel) (aCons (dVar (pv 0)) aNil)) (dVar (pv 3))) (dOne (dCb (cr_all rfl) c_all (by rfl) T.z_all (by decide +kernel) (aCons (dFE (dLc (pe_lc (own := [("sign", 4)]) rfl nd (jSeq (dVar (pv 0))) (blkOk_by (N := ["value", "signs", "low", "high", "sign"]) (sc := defScope st_is_word) (by decide +kernel)) (fun _ _ _ _ _ => (kN (pg_name (i := 4) nd rfl (.inl rfl)))) (fun _ _ _ _ _ => bNilT) (fun _ _ _ _ _ => (dCmp op_in_str o_inStr (dVar (pv 4)) (dVar (pv 1)) (by with_unfolding_all rfl)))))) aNil)))))))
theorem ok_end_of_row (T : Txt K mg ad fd) (F : Fun K "end_of_row" "end_of_row" st_end_of_row (ad 13) (fd 13)) (G_need_end_plan : FnOk P w K mg base (L2.CX P w) 5 (ad 10) (fd 10) ["value"] (SpD K cl 1 g_need_end_plan)) (G_is_word : FnOk P w K mg base (L2.CX P w) 1 (ad 12) (fd 12) ["value", "signs", "low", "high"] (SpD K cl 4 g_is_word)) (G_end_of : FnOk P w K mg base (L2.CX P w) 1 (ad 11) (fd 11) ["plan", "row"] (SpD K cl 2 g_end_of)) : FnOk P w K mg base (L2.CX P w) 6 (ad 13) (fd 13) ["plan", "row"] (SpD K cl 2 g_end_of_row) := show FnOk P w K mg base (L2.CX P w) 6 (ad 13) (fd 13) ["plan", "row"] (SpD K cl 2 (bodyD F_end_of_row 2)) from okD2 (k := 5) (N := ["plan", "row"]) (ps := ["plan", "row"]) F_end_of_row F sc_end_of_row rfl rfl (by decide) fun cdv A outer s H E hr => by
  have nd := sc_end_of_row.nd
  have hu := hu_of hr
  have hu64 := hr.units
  have tk : Takes (cxOf (L2.CX P w) P w K mg base ["plan", "row"] "end_of_row" (defScope st_end_of_row) (ad 13) cdv A outer s H E) (WE0 E) := takes_of rfl rfl rfl rfl
  have ps : PassesOwn (model P w) (cxOf (L2.CX P w) P w K mg base ["plan", "row"] "end_of_row" (defScope st_end_of_row) (ad 13) cdv A outer s H E).A (cxOf (L2.CX P w) P w K mg base ["plan", "row"] "end_of_row" (defScope st_end_of_row) (ad 13) cdv A outer s H E).env (cxOf (L2.CX P w) P w K mg base ["plan", "row"] "end_of_row" (defScope st_end_of_row) (ad 13) cdv A outer s H E).xe := passes_of rfl
  exact (hCons (hExpr (dCall G_need_end_plan (hr.mono (by omega)) (by rfl) T.m_need_end_plan T.k_need_end_plan T.b_need_end_plan tk (aCons (dVar (pv 0)) aNil) (lCons_len lNil_len)))
    (hCons (hIf (bNotE (bValE (dCall G_is_word (hr.mono (by omega)) (by rfl) T.m_is_word T.k_is_word T.b_is_word tk (aCons (dVar (pv 1)) (aCons (dC (pe_glob (v := .str "ud") (by rfl) T.c_SIGNS.choose_spec ⟨_, rfl⟩) fun _ _ => .str (by decide +kernel)) (aCons dInt (aCons (dCb call_len c_len (by rfl) T.z_len (by decide +kernel) (aCons (dVar (pv 0)) aNil)) aNil)))) (lCons_len (lCons_len (lCons_len (lCons_len lNil_len))))))) (hOne hFail) hNil)
    (hOne (hRet (dCall G_end_of (hr.mono (by omega)) (by rfl) T.m_end_of T.k_end_of T.b_end_of tk (aCons (dVar (pv 0)) (aCons (dVar (pv 1)) aNil)) (lCons_len (lCons_len lNil_len)))))))
theorem ok_layers_of_plan (T : Txt K mg ad fd) (F : Fun K "layers_of_plan" "layers_of_plan" st_layers_of_plan (ad 14) (fd 14)) : FnOk P w K mg base (L2.CX P w) 1 (ad 14) (fd 14) ["plan"] (SpD K cl 1 g_layers_of_plan) := show FnOk P w K mg base (L2.CX P w) 1 (ad 14) (fd 14) ["plan"] (SpD K cl 1 (bodyD F_layers_of_plan 11)) from okD2 (k := 0) (N := ["plan", "opened", "ended", "low", "high", "ahead", "here", "one", "other", "ups", "ways"]) (ps := ["plan"]) F_layers_of_plan F sc_layers_of_plan rfl rfl (by decide) fun cdv A outer s H E hr => by
  have nd := sc_layers_of_plan.nd
  have hu := hu_of hr
  have hu64 := hr.units
  have tk : Takes (cxOf (L2.CX P w) P w K mg base ["plan", "opened", "ended", "low", "high", "ahead", "here", "one", "other", "ups", "ways"] "layers_of_plan" (defScope st_layers_of_plan) (ad 14) cdv A outer s H E) (WE0 E) := takes_of rfl rfl rfl rfl
  have ps : PassesOwn (model P w) (cxOf (L2.CX P w) P w K mg base ["plan", "opened", "ended", "low", "high", "ahead", "here", "one", "other", "ups", "ways"] "layers_of_plan" (defScope st_layers_of_plan) (ad 14) cdv A outer s H E).A (cxOf (L2.CX P w) P w K mg base ["plan", "opened", "ended", "low", "high", "ahead", "here", "one", "other", "ups", "ways"] "layers_of_plan" (defScope st_layers_of_plan) (ad 14) cdv A outer s H E).env (cxOf (L2.CX P w) P w K mg base ["plan", "opened", "ended", "low", "high", "ahead", "here", "one", "other", "ups", "ways"] "layers_of_plan" (defScope st_layers_of_plan) (ad 14) cdv A outer s H E).xe := passes_of rfl
  exact (hCons (hPar2 (ps_par (i := 1) (j := 2) rfl nd rfl rfl (by decide) rfl rfl (jNew (dLst (aCons (dFE (dLst (aCons dInt aNil))) aNil)) (jNew (dLst aNil) jNil pl_mNil) (pl_mNew (pl_Lst pl_lNil) pl_mNil)) (by rfl)))
    (hCons (hFor (ps_for ps rfl (jSeq (dVar (pv 0))) (kT (pg_tup rfl (kC (kN (pg_name (i := 3) nd rfl (.inr rfl))) (kC (kN (pg_name (i := 4) nd rfl (.inr rfl))) kE (pgs_cons (kN (pg_name (i := 4) nd rfl (.inr rfl))) kE)) (pgs_cons (kN (pg_name (i := 3) nd rfl (.inr rfl))) (kC (kN (pg_name (i := 4) nd rfl (.inr rfl))) kE (pgs_cons (kN (pg_name (i := 4) nd rfl (.inr rfl))) kE))))) (gs_len (gs_len gE_len))) (hCons (hAsg (ps_set (i := 5) nd rfl (.inl rfl) (dIxO (pv 1) (dUn un_neg o_neg dInt) (fun _ _ => rfl))))
    (hCons (hAsgLcV (ps_setLc (own := [("one", 7), ("other", 8)]) (i := 6) rfl nd rfl rfl (sw_true rfl rfl rfl rfl) (jZipA (RZ.pi_zipA (by rfl) T.z_zip (aCons (dBin op_addD o_add (dVar (pv 5)) (dFE (dLst (aCons dInt aNil)))) (aCons (dBin op_addD o_add (dFE (dLst (aCons dInt aNil))) (dVar (pv 5))) aNil)))) (blkOk_by (N := ["plan", "opened", "ended", "low", "high", "ahead", "here", "one", "other", "ups", "ways"]) (sc := defScope st_layers_of_plan) (by decide +kernel)) (fun _ _ _ _ _ => (kT (pg_tup rfl (kC (kN (pg_name (i := 7) nd rfl (.inl rfl))) (kC (kN (pg_name (i := 8) nd rfl (.inl rfl))) kE (pgs_cons (kN (pg_name (i := 8) nd rfl (.inl rfl))) kE)) (pgs_cons (kN (pg_name (i := 7) nd rfl (.inl rfl))) (kC (kN (pg_name (i := 8) nd rfl (.inl rfl))) kE (pgs_cons (kN (pg_name (i := 8) nd rfl (.inl rfl))) kE))))) (gs_len (gs_len gE_len)))) (fun _ _ _ _ _ => bNilT) (fun _ _ _ _ _ => (dBin op_addD o_add (dVar (pv 7)) (dVar (pv 8))))))
    (hCons (hApp (ps_expr (pe_bm PySem.F.plainAttrs_list PySem.F.slot_list_append PySem.F.type_list_append mt_append (pv 1) (pa_cons (dFE (dLc (pe_lc (own := [("ups", 9), ("ways", 10)]) rfl nd (jEnumA (dVar (pv 6)) (by rfl) T.z_enumerate) (blkOk_by (N := ["plan", "opened", "ended", "low", "high", "ahead", "here", "one", "other", "ups", "ways"]) (sc := defScope st_layers_of_plan) (by decide +kernel)) (fun _ _ _ _ _ => (kT (pg_tup rfl (kC (kN (pg_name (i := 9) nd rfl (.inl rfl))) (kC (kN (pg_name (i := 10) nd rfl (.inl rfl))) kE (pgs_cons (kN (pg_name (i := 10) nd rfl (.inl rfl))) kE)) (pgs_cons (kN (pg_name (i := 9) nd rfl (.inl rfl))) (kC (kN (pg_name (i := 10) nd rfl (.inl rfl))) kE (pgs_cons (kN (pg_name (i := 10) nd rfl (.inl rfl))) kE))))) (gs_len (gs_len gE_len)))) (fun _ _ _ _ _ => bNilT) (fun _ _ _ _ _ => (dIf (bChain op_lt o_cmpI op_lt o_cmpI (dVar (pv 3)) (dVar (pv 9)) (dVar (pv 4))) (dVar (pv 10)) dInt))))) pa_nil))))
    (hOne (hApp (ps_expr (pe_bm PySem.F.plainAttrs_list PySem.F.slot_list_append PySem.F.type_list_append mt_append (pv 2) (pa_cons (dFE (dLc (pe_lc (own := [("ups", 9), ("ways", 10)]) rfl nd (jEnumA (dVar (pv 6)) (by rfl) T.z_enumerate) (blkOk_by (N := ["plan", "opened", "ended", "low", "high", "ahead", "here", "one", "other", "ups", "ways"]) (sc := defScope st_layers_of_plan) (by decide +kernel)) (fun _ _ _ _ _ => (kT (pg_tup rfl (kC (kN (pg_name (i := 9) nd rfl (.inl rfl))) (kC (kN (pg_name (i := 10) nd rfl (.inl rfl))) kE (pgs_cons (kN (pg_name (i := 10) nd rfl (.inl rfl))) kE)) (pgs_cons (kN (pg_name (i := 9) nd rfl (.inl rfl))) (kC (kN (pg_name (i := 10) nd rfl (.inl rfl))) kE (pgs_cons (kN (pg_name (i := 10) nd rfl (.inl rfl))) kE))))) (gs_len (gs_len gE_len)))) (fun _ _ _ _ _ => bNilT) (fun _ _ _ _ _ => (dIf (bChain op_lt o_cmpI op_lt o_cmpI (dVar (pv 3)) (dVar (pv 9)) (dVar (pv 4))) dInt (dVar (pv 10))))))) pa_nil))))))))))
    (hOne (hFrz (i := 2) (hFrz (i := 1) (hRet (dTup (aCons (dVar (pv 1)) (aCons (dVar (pv 2)) aNil)))))))))
theorem ok_points_in_plan (T : Txt K mg ad fd) (F : Fun K "points_in_plan" "points_in_plan" st_points_in_plan (ad 15) (fd 15)) (G_layers_of_plan : FnOk P w K mg base (L2.CX P w) 1 (ad 14) (fd 14) ["plan"] (SpD K cl 1 g_layers_of_plan)) : FnOk P w K mg base (L2.CX P w) 2 (ad 15) (fd 15) ["plan"] (SpD K cl 1 g_points_in_plan) := show FnOk P w K mg base (L2.CX P w) 2 (ad 15) (fd 15) ["plan"] (SpD K cl 1 (bodyD F_points_in_plan 6)) from okD2 (k := 1) (N := ["plan", "found", "at", "row", "ups", "ways"]) (ps := ["plan"]) F_points_in_plan F sc_points_in_plan rfl rfl (by decide) fun cdv A outer s H E hr => by
  have nd := sc_points_in_plan.nd
  have hu := hu_of hr
  have hu64 := hr.units
  have tk : Takes (cxOf (L2.CX P w) P w K mg base ["plan", "found", "at", "row", "ups", "ways"] "points_in_plan" (defScope st_points_in_plan) (ad 15) cdv A outer s H E) (WE0 E) := takes_of rfl rfl rfl rfl
  have ps : PassesOwn (model P w) (cxOf (L2.CX P w) P w K mg base ["plan", "found", "at", "row", "ups", "ways"] "points_in_plan" (defScope st_points_in_plan) (ad 15) cdv A outer s H E).A (cxOf (L2.CX P w) P w K mg base ["plan", "found", "at", "row", "ups", "ways"] "points_in_plan" (defScope st_points_in_plan) (ad 15) cdv A outer s H E).env (cxOf (L2.CX P w) P w K mg base ["plan", "found", "at", "row", "ups", "ways"] "points_in_plan" (defScope st_points_in_plan) (ad 15) cdv A outer s H E).xe := passes_of rfl
  exact (hCons (hAsg (ps_set (i := 1) nd rfl (.inl rfl) (dFE (dLst aNil))))
    (hCons (hFor (ps_for ps rfl (jEnumA (dIx (dCall G_layers_of_plan (hr.mono (by omega)) (by rfl) T.m_layers_of_plan T.k_layers_of_plan T.b_layers_of_plan tk (aCons (dVar (pv 0)) aNil) (lCons_len lNil_len)) dInt (fun _ _ => rfl)) (by rfl) T.z_enumerate) (kT (pg_tup rfl (kC (kN (pg_name (i := 2) nd rfl (.inr rfl))) (kC (kN (pg_name (i := 3) nd rfl (.inl rfl))) kE (pgs_cons (kN (pg_name (i := 3) nd rfl (.inl rfl))) kE)) (pgs_cons (kN (pg_name (i := 2) nd rfl (.inr rfl))) (kC (kN (pg_name (i := 3) nd rfl (.inl rfl))) kE (pgs_cons (kN (pg_name (i := 3) nd rfl (.inl rfl))) kE))))) (gs_len (gs_len gE_len))) (hOne (hAsg (ps_set (i := 1) nd rfl (.inl rfl) (dBin op_addD o_add (dVar (pv 1)) (dFE (dLc (pe_lc (own := [("ups", 4), ("ways", 5)]) rfl nd (jEnumA (dVar (pv 3)) (by rfl) T.z_enumerate) (blkOk_by (N := ["plan", "found", "at", "row", "ups", "ways"]) (sc := defScope st_points_in_plan) (by decide +kernel)) (fun _ _ _ _ _ => (kT (pg_tup rfl (kC (kN (pg_name (i := 4) nd rfl (.inl rfl))) (kC (kN (pg_name (i := 5) nd rfl (.inl rfl))) kE (pgs_cons (kN (pg_name (i := 5) nd rfl (.inl rfl))) kE)) (pgs_cons (kN (pg_name (i := 4) nd rfl (.inl rfl))) (kC (kN (pg_name (i := 5) nd rfl (.inl rfl))) kE (pgs_cons (kN (pg_name (i := 5) nd rfl (.inl rfl))) kE))))) (gs_len (gs_len gE_len)))) (fun _ _ _ _ _ => (pts_one (bCmp op_gt o_cmpI (dVar (pv 5)) dInt (nomark _)))) (fun _ _ _ _ _ => (dTup (aCons (dBin op_addD o_add (dVar (pv 2)) dInt) (aCons (dVar (pv 4)) (aCons (dVar (pv 5)) aNil))))))))))))))
    (hOne (hRet (dVar (pv 1))))))
theorem ok_end_points (T : Txt K mg ad fd) (F : Fun K "end_points" "end_points" st_end_points (ad 16) (fd 16)) (G_need_end_plan : FnOk P w K mg base (L2.CX P w) 5 (ad 10) (fd 10) ["value"] (SpD K cl 1 g_need_end_plan)) (G_points_in_plan : FnOk P w K mg base (L2.CX P w) 2 (ad 15) (fd 15) ["plan"] (SpD K cl 1 g_points_in_plan)) : FnOk P w K mg base (L2.CX P w) 6 (ad 16) (fd 16) ["plan"] (SpD K cl 1 g_end_points) := show FnOk P w K mg base (L2.CX P w) 6 (ad 16) (fd 16) ["plan"] (SpD K cl 1 (bodyD F_end_points 1)) from okD2 (k := 5) (N := ["plan"]) (ps := ["plan"]) F_end_points F sc_end_points rfl rfl (by decide) fun cdv A outer s H E hr => by
  have nd := sc_end_points.nd
  have hu := hu_of hr
  have hu64 := hr.units
  have tk : Takes (cxOf (L2.CX P w) P w K mg base ["plan"] "end_points" (defScope st_end_points) (ad 16) cdv A outer s H E) (WE0 E) := takes_of rfl rfl rfl rfl
  have ps : PassesOwn (model P w) (cxOf (L2.CX P w) P w K mg base ["plan"] "end_points" (defScope st_end_points) (ad 16) cdv A outer s H E).A (cxOf (L2.CX P w) P w K mg base ["plan"] "end_points" (defScope st_end_points) (ad 16) cdv A outer s H E).env (cxOf (L2.CX P w) P w K mg base ["plan"] "end_points" (defScope st_end_points) (ad 16) cdv A outer s H E).xe := passes_of rfl
  exact (hCons (hExpr (dCall G_need_end_plan (hr.mono (by omega)) (by rfl) T.m_need_end_plan T.k_need_end_plan T.b_need_end_plan tk (aCons (dVar (pv 0)) aNil) (lCons_len lNil_len)))
    (hOne (hRet (dCty call_tuple_of c_tuple (by rfl) T.z_tuple (by decide +kernel) (aCons (dCall G_points_in_plan (hr.mono (by omega)) (by rfl) T.m_points_in_plan T.k_points_in_plan T.b_points_in_plan tk (aCons (dVar (pv 0)) aNil) (lCons_len lNil_len)) aNil)))))
theorem ok_need_whole (T : Txt K mg ad fd) (F : Fun K "need_whole" "need_whole" st_need_whole (ad 17) (fd 17)) (G_is_whole : FnOk P w K mg base (L2.CX P w) 2 (ad 6) (fd 6) ["value", "low", "high"] (SpD K cl 3 g_is_whole)) : FnOk P w K mg base (L2.CX P w) 3 (ad 17) (fd 17) ["value", "low", "high"] (SpD K cl 3 g_need_whole) := show FnOk P w K mg base (L2.CX P w) 3 (ad 17) (fd 17) ["value", "low", "high"] (SpD K cl 3 (bodyD F_need_whole 3)) from okD2 (k := 2) (N := ["value", "low", "high"]) (ps := ["value", "low", "high"]) F_need_whole F sc_need_whole rfl rfl (by decide) fun cdv A outer s H E hr => by
  have nd := sc_need_whole.nd
  have hu := hu_of hr
  have hu64 := hr.units
  have tk : Takes (cxOf (L2.CX P w) P w K mg base ["value", "low", "high"] "need_whole" (defScope st_need_whole) (ad 17) cdv A outer s H E) (WE0 E) := takes_of rfl rfl rfl rfl
  have ps : PassesOwn (model P w) (cxOf (L2.CX P w) P w K mg base ["value", "low", "high"] "need_whole" (defScope st_need_whole) (ad 17) cdv A outer s H E).A (cxOf (L2.CX P w) P w K mg base ["value", "low", "high"] "need_whole" (defScope st_need_whole) (ad 17) cdv A outer s H E).env (cxOf (L2.CX P w) P w K mg base ["value", "low", "high"] "need_whole" (defScope st_need_whole) (ad 17) cdv A outer s H E).xe := passes_of rfl
  exact (hOne (hIf (bNotE (bValE (dCall G_is_whole (hr.mono (by omega)) (by rfl) T.m_is_whole T.k_is_whole T.b_is_whole tk (aCons (dVar (pv 0)) (aCons (dVar (pv 1)) (aCons (dVar (pv 2)) aNil))) (lCons_len (lCons_len (lCons_len lNil_len)))))) (hOne hFail) hNil))
theorem ok_open_counts (T : Txt K mg ad fd) (F : Fun K "open_counts" "open_counts" st_open_counts (ad 18) (fd 18)) (G_need_end_plan : FnOk P w K mg base (L2.CX P w) 5 (ad 10) (fd 10) ["value"] (SpD K cl 1 g_need_end_plan)) (G_need_whole : FnOk P w K mg base (L2.CX P w) 3 (ad 17) (fd 17) ["value", "low", "high"] (SpD K cl 3 g_need_whole)) (G_layers_of_plan : FnOk P w K mg base (L2.CX P w) 1 (ad 14) (fd 14) ["plan"] (SpD K cl 1 g_layers_of_plan)) : FnOk P w K mg base (L2.CX P w) 6 (ad 18) (fd 18) ["plan", "many"] (SpD K cl 2 g_open_counts) := show FnOk P w K mg base (L2.CX P w) 6 (ad 18) (fd 18) ["plan", "many"] (SpD K cl 2 (bodyD F_open_counts 2)) from okD2 (k := 5) (N := ["plan", "many"]) (ps := ["plan", "many"]) F_open_counts F sc_open_counts rfl rfl (by decide) fun cdv A outer s H E hr => by
  have nd := sc_open_counts.nd
  have hu := hu_of hr
  have hu64 := hr.units
  have tk : Takes (cxOf (L2.CX P w) P w K mg base ["plan", "many"] "open_counts" (defScope st_open_counts) (ad 18) cdv A outer s H E) (WE0 E) := takes_of rfl rfl rfl rfl
  have ps : PassesOwn (model P w) (cxOf (L2.CX P w) P w K mg base ["plan", "many"] "open_counts" (defScope st_open_counts) (ad 18) cdv A outer s H E).A (cxOf (L2.CX P w) P w K mg base ["plan", "many"] "open_counts" (defScope st_open_counts) (ad 18) cdv A outer s H E).env (cxOf (L2.CX P w) P w K mg base ["plan", "many"] "open_counts" (defScope st_open_counts) (ad 18) cdv A outer s H E).xe := passes_of rfl
  exact (hCons (hExpr (dCall G_need_end_plan (hr.mono (by omega)) (by rfl) T.m_need_end_plan T.k_need_end_plan T.b_need_end_plan tk (aCons (dVar (pv 0)) aNil) (lCons_len lNil_len)))
    (hCons (hExpr (dCall G_need_whole (hr.mono (by omega)) (by rfl) T.m_need_whole T.k_need_whole T.b_need_whole tk (aCons (dVar (pv 1)) (aCons dInt (aCons (dCb call_len c_len (by rfl) T.z_len (by decide +kernel) (aCons (dVar (pv 0)) aNil)) aNil))) (lCons_len (lCons_len (lCons_len lNil_len)))))
    (hOne (hRet (dCty call_tuple_of c_tuple (by rfl) T.z_tuple (by decide +kernel) (aCons (dIx (dIx (dCall G_layers_of_plan (hr.mono (by omega)) (by rfl) T.m_layers_of_plan T.k_layers_of_plan T.b_layers_of_plan tk (aCons (dVar (pv 0)) aNil) (lCons_len lNil_len)) dInt (fun _ _ => rfl)) (dVar (pv 1)) (fun _ _ => rfl)) aNil))))))
theorem ok__law_plan (T : Txt K mg ad fd) (F : Fun K "_law_plan" "_law_plan" st__law_plan (ad 19) (fd 19)) (G__law_roll : FnOk P w K mg base (L2.CX P w) 1 (ad 1) (fd 1) ["cup", "many"] (SpD K cl 2 g__law_roll)) : FnOk P w K mg base (L2.CX P w) 2 (ad 19) (fd 19) ["cup", "most"] (SpD K cl 2 g__law_plan) := show FnOk P w K mg base (L2.CX P w) 2 (ad 19) (fd 19) ["cup", "most"] (SpD K cl 2 (bodyD F__law_plan 7)) from okD2 (k := 1) (N := ["cup", "most", "many", "way", "found", "low", "own"]) (ps := ["cup", "most"]) F__law_plan F sc__law_plan rfl rfl (by decide) fun cdv A outer s H E hr => by
  have nd := sc__law_plan.nd
  have hu := hu_of hr
  have hu64 := hr.units
  have tk : Takes (cxOf (L2.CX P w) P w K mg base ["cup", "most", "many", "way", "found", "low", "own"] "_law_plan" (defScope st__law_plan) (ad 19) cdv A outer s H E) (WE0 E) := takes_of rfl rfl rfl rfl
  have ps : PassesOwn (model P w) (cxOf (L2.CX P w) P w K mg base ["cup", "most", "many", "way", "found", "low", "own"] "_law_plan" (defScope st__law_plan) (ad 19) cdv A outer s H E).A (cxOf (L2.CX P w) P w K mg base ["cup", "most", "many", "way", "found", "low", "own"] "_law_plan" (defScope st__law_plan) (ad 19) cdv A outer s H E).env (cxOf (L2.CX P w) P w K mg base ["cup", "most", "many", "way", "found", "low", "own"] "_law_plan" (defScope st__law_plan) (ad 19) cdv A outer s H E).xe := passes_of rfl
  exact (hCons (hParT (is := [2, 3, 4, 5]) (ps_asg (pe_tup (jVal (dBin op_addD o_add dInt (dCall G__law_roll (hr.mono (by omega)) (by rfl) T.m__law_roll T.k__law_roll T.b__law_roll tk (aCons (dVar (pv 0)) (aCons (dVar (pv 1)) aNil)) (lCons_len (lCons_len lNil_len)))) (jVal (dCall G__law_roll (hr.mono (by omega)) (by rfl) T.m__law_roll T.k__law_roll T.b__law_roll tk (aCons (dVar (pv 0)) (aCons dInt aNil)) (lCons_len (lCons_len lNil_len))) (jNew (dLst aNil) (jVal (dUn un_neg o_neg dInt) jNil) (pl_mVal (pl_Un (pl_C _)) pl_mNil))))) (pg_tup rfl (pgs_cons (pg_name (i := 2) nd rfl (.inl rfl)) (pgs_cons (pg_name (i := 3) nd rfl (.inl rfl)) (pgs_cons (pg_name (i := 4) nd rfl (.inl rfl)) (pgs_cons (pg_name (i := 5) nd rfl (.inl rfl)) pgs_nil)))))))
    (hCons (hFor (ps_for ps rfl (jRg2 (by rfl) T.z_range (aCons dInt (aCons (dBin op_addD o_add (dVar (pv 2)) dInt) aNil))) (kN (pg_name (i := 6) nd rfl (.inl rfl))) (hCons (hIf (bCmp (op_eqD hu64) o_eq (dVar (pv 3)) dInt (nomark _)) (hOne (hAsg (ps_set (i := 5) nd rfl (.inl rfl) (dCb (call_min2 rfl) c_min2 (by rfl) T.z_min (by decide +kernel) (aCons (dBin op_sub o_sub (dVar (pv 6)) dInt) (aCons (dBin op_addD o_add (dVar (pv 5)) (dIf (bCmp (op_eqD hu64) o_eq (dCall G__law_roll (hr.mono (by omega)) (by rfl) T.m__law_roll T.k__law_roll T.b__law_roll tk (aCons (dVar (pv 0)) (aCons dInt aNil)) (lCons_len (lCons_len lNil_len))) dInt (nomark _)) dInt dInt)) aNil)))))) hNil)
    (hCons (hIf (bCmp (op_eqD hu64) o_eq (dVar (pv 3)) dInt (nomark _)) (hOne (hAsg (ps_set (i := 5) nd rfl (.inl rfl) (dBin op_sub o_sub (dCall G__law_roll (hr.mono (by omega)) (by rfl) T.m__law_roll T.k__law_roll T.b__law_roll tk (aCons (dVar (pv 0)) (aCons (dBin op_addD o_add (dVar (pv 6)) dInt) aNil)) (lCons_len (lCons_len lNil_len))) dInt)))) hNil)
    (hCons (hIf (bCmp (op_eqD hu64) o_eq (dVar (pv 3)) dInt (nomark _)) (hOne (hAsg (ps_set (i := 5) nd rfl (.inl rfl) (dIf (bCmp op_gt o_cmpI (dVar (pv 6)) dInt (nomark _)) (dBin op_sub o_sub (dCty call_int1 c_int (by rfl) T.z_int (by decide +kernel) (aCons (dBin op_divD o_div (dVar (pv 6)) dInt) aNil)) dInt) (dUn un_neg o_neg dInt))))) hNil)
    (hOne (hApp (ps_expr (pe_bm PySem.F.plainAttrs_list PySem.F.slot_list_append PySem.F.type_list_append mt_append (pv 4) (pa_cons (dTup (aCons (dVar (pv 5)) (aCons (dIf (bCmp op_lt o_cmpI (dVar (pv 6)) (dVar (pv 2)) (nomark _)) (dCb (call_min2 rfl) c_min2 (by rfl) T.z_min (by decide +kernel) (aCons dInt (aCons (dBin op_addD o_add (dBin op_addD o_add (dVar (pv 5)) dInt) (dCall G__law_roll (hr.mono (by omega)) (by rfl) T.m__law_roll T.k__law_roll T.b__law_roll tk (aCons (dVar (pv 0)) (aCons dInt aNil)) (lCons_len (lCons_len lNil_len)))) aNil))) (dBin op_addD o_add (dVar (pv 5)) dInt)) aNil))) pa_nil))))))))))
    (hOne (hFrz (i := 4) (hRet (dCty call_tuple_of c_tuple (by rfl) T.z_tuple (by decide +kernel) (aCons (dVar (pv 4)) aNil)))))))
theorem ok__law_rows (T : Txt K mg ad fd) (F : Fun K "_law_rows" "_law_rows" st__law_rows (ad 20) (fd 20)) : FnOk P w K mg base (L2.CX P w) 1 (ad 20) (fd 20) ["many"] (SpD K cl 1 g__law_rows) := show FnOk P w K mg base (L2.CX P w) 1 (ad 20) (fd 20) ["many"] (SpD K cl 1 (bodyD F__law_rows 5)) from okD2 (k := 0) (N := ["many", "found", "turn", "longer", "row"]) (ps := ["many"]) F__law_rows F sc__law_rows rfl rfl (by decide) fun cdv A outer s H E hr => by
  have nd := sc__law_rows.nd
  have hu := hu_of hr
  have hu64 := hr.units
  have tk : Takes (cxOf (L2.CX P w) P w K mg base ["many", "found", "turn", "longer", "row"] "_law_rows" (defScope st__law_rows) (ad 20) cdv A outer s H E) (WE0 E) := takes_of rfl rfl rfl rfl
  have ps : PassesOwn (model P w) (cxOf (L2.CX P w) P w K mg base ["many", "found", "turn", "longer", "row"] "_law_rows" (defScope st__law_rows) (ad 20) cdv A outer s H E).A (cxOf (L2.CX P w) P w K mg base ["many", "found", "turn", "longer", "row"] "_law_rows" (defScope st__law_rows) (ad 20) cdv A outer s H E).env (cxOf (L2.CX P w) P w K mg base ["many", "found", "turn", "longer", "row"] "_law_rows" (defScope st__law_rows) (ad 20) cdv A outer s H E).xe := passes_of rfl
  exact (hCons (hAsg (ps_set (i := 1) nd rfl (.inl rfl) (dFE (dLst (aCons (dStr) aNil)))))
    (hCons (hFor (ps_for ps rfl (jRg1 (by rfl) T.z_range (aCons (dVar (pv 0)) aNil)) (kN (pg_name (i := 2) nd rfl (.inl rfl))) (hCons (hAsgF (ps_set (i := 3) nd rfl (.inl rfl) (dLst aNil)))
    (hCons (hFor (ps_for ps rfl (jSeq (dVar (pv 1))) (kN (pg_name (i := 4) nd rfl (.inl rfl))) (hCons (hApp (ps_expr (pe_bm PySem.F.plainAttrs_list PySem.F.slot_list_append PySem.F.type_list_append mt_append (pv 3) (pa_cons (dBin op_addD o_add (dVar (pv 4)) (dStr)) pa_nil))))
    (hOne (hApp (ps_expr (pe_bm PySem.F.plainAttrs_list PySem.F.slot_list_append PySem.F.type_list_append mt_append (pv 3) (pa_cons (dBin op_addD o_add (dVar (pv 4)) (dStr)) pa_nil))))))))
    (hOne (hFrz (i := 3) (hAsg (ps_set (i := 1) nd rfl (.inl rfl) (dVar (pv 3))))))))))
    (hOne (hRet (dVar (pv 1))))))
theorem ok__law_end (T : Txt K mg ad fd) (F : Fun K "_law_end" "_law_end" st__law_end (ad 21) (fd 21)) : FnOk P w K mg base (L2.CX P w) 1 (ad 21) (fd 21) ["plan", "row"] (SpD K cl 2 g__law_end) := show FnOk P w K mg base (L2.CX P w) 1 (ad 21) (fd 21) ["plan", "row"] (SpD K cl 2 (bodyD F__law_end 5)) from okD2 (k := 0) (N := ["plan", "row", "at", "ups", "sign"]) (ps := ["plan", "row"]) F__law_end F sc__law_end rfl rfl (by decide) fun cdv A outer s H E hr => by
  have nd := sc__law_end.nd
  have hu := hu_of hr
  have hu64 := hr.units
  have tk : Takes (cxOf (L2.CX P w) P w K mg base ["plan", "row", "at", "ups", "sign"] "_law_end" (defScope st__law_end) (ad 21) cdv A outer s H E) (WE0 E) := takes_of rfl rfl rfl rfl
  have ps : PassesOwn (model P w) (cxOf (L2.CX P w) P w K mg base ["plan", "row", "at", "ups", "sign"] "_law_end" (defScope st__law_end) (ad 21) cdv A outer s H E).A (cxOf (L2.CX P w) P w K mg base ["plan", "row", "at", "ups", "sign"] "_law_end" (defScope st__law_end) (ad 21) cdv A outer s H E).env (cxOf (L2.CX P w) P w K mg base ["plan", "row", "at", "ups", "sign"] "_law_end" (defScope st__law_end) (ad 21) cdv A outer s H E).xe := passes_of rfl
  exact (hCons (hFor (ps_for ps rfl (jRg1 (by rfl) T.z_range (aCons (dCb call_len c_len (by rfl) T.z_len (by decide +kernel) (aCons (dVar (pv 1)) aNil)) aNil)) (kN (pg_name (i := 2) nd rfl (.inl rfl))) (hCons (hAsg (ps_set (i := 3) nd rfl (.inl rfl) (dCb call_len c_len (by rfl) T.z_len (by decide +kernel) (aCons (dFE (dLc (pe_lc (own := [("sign", 4)]) rfl nd (jSeq (dSl (dVar (pv 1)) dONone (dOSome (dBin op_addD o_add (dVar (pv 2)) dInt)))) (blkOk_by (N := ["plan", "row", "at", "ups", "sign"]) (sc := defScope st__law_end) (by decide +kernel)) (fun _ _ _ _ _ => (kN (pg_name (i := 4) nd rfl (.inl rfl)))) (fun _ _ _ _ _ => (pts_one (bCmp (op_eqD hu64) o_eq (dVar (pv 4)) (dStr) (nomark _)))) (fun _ _ _ _ _ => (dVar (pv 4)))))) aNil))))
    (hCons (hIf (bCmp op_le o_cmpI (dVar (pv 3)) (dIx (dIx (dVar (pv 0)) (dVar (pv 2)) (fun _ _ => rfl)) dInt (fun _ _ => rfl)) (nomark _)) (hOne (hRet (dTup (aCons (dBin op_addD o_add (dVar (pv 2)) dInt) (aCons (dStr) aNil))))) hNil)
    (hOne (hIf (bCmp op_ge o_cmpI (dVar (pv 3)) (dIx (dIx (dVar (pv 0)) (dVar (pv 2)) (fun _ _ => rfl)) dInt (fun _ _ => rfl)) (nomark _)) (hOne (hRet (dTup (aCons (dBin op_addD o_add (dVar (pv 2)) dInt) (aCons (dStr) aNil))))) hNil))))))
    (hOne (hRet dNon)))
theorem ok__law_small_right (T : Txt K mg ad fd) (F : Fun K "_law_small_right" "_law_small_right" st__law_small_right (ad 22) (fd 22)) (G__law_rows : FnOk P w K mg base (L2.CX P w) 1 (ad 20) (fd 20) ["many"] (SpD K cl 1 g__law_rows)) (G__law_end : FnOk P w K mg base (L2.CX P w) 1 (ad 21) (fd 21) ["plan", "row"] (SpD K cl 2 g__law_end)) (G_end_points : FnOk P w K mg base (L2.CX P w) 6 (ad 16) (fd 16) ["plan"] (SpD K cl 1 g_end_points)) (G__law_like : FnOk P w K mg base (L2.CX P w) 14 (ad 3) (fd 3) ["one", "other"] (SpD K cl 2 (g__law_like 12))) (G_open_counts : FnOk P w K mg base (L2.CX P w) 6 (ad 18) (fd 18) ["plan", "many"] (SpD K cl 2 g_open_counts)) : FnOk P w K mg base (L2.CX P w) 15 (ad 22) (fd 22) ["plan"] (SpD K cl 1 g__law_small_right) := show FnOk P w K mg base (L2.CX P w) 15 (ad 22) (fd 22) ["plan"] (SpD K cl 1 (bodyD F__law_small_right 8)) from okD2 (k := 14) (N := ["plan", "counts", "open_ones", "many", "row", "end", "ups", "sign"]) (ps := ["plan"]) F__law_small_right F sc__law_small_right rfl rfl (by decide) fun cdv A outer s H E hr => by
  have nd := sc__law_small_right.nd
  have hu := hu_of hr
  have hu64 := hr.units
  have tk : Takes (cxOf (L2.CX P w) P w K mg base ["plan", "counts", "open_ones", "many", "row", "end", "ups", "sign"] "_law_small_right" (defScope st__law_small_right) (ad 22) cdv A outer s H E) (WE0 E) := takes_of rfl rfl rfl rfl
  have ps : PassesOwn (model P w) (cxOf (L2.CX P w) P w K mg base ["plan", "counts", "open_ones", "many", "row", "end", "ups", "sign"] "_law_small_right" (defScope st__law_small_right) (ad 22) cdv A outer s H E).A (cxOf (L2.CX P w) P w K mg base ["plan", "counts", "open_ones", "many", "row", "end", "ups", "sign"] "_law_small_right" (defScope st__law_small_right) (ad 22) cdv A outer s H E).env (cxOf (L2.CX P w) P w K mg base ["plan", "counts", "open_ones", "many", "row", "end", "ups", "sign"] "_law_small_right" (defScope st__law_small_right) (ad 22) cdv A outer s H E).xe := passes_of rfl
  exact (hCons (hParT (is := [1, 2]) (ps_asg (pe_tup (jNew dNewT (jNew dNewT jNil pl_mNil) (pl_mNew pl_NewT pl_mNil))) (pg_tup rfl (pgs_cons (pg_name (i := 1) nd rfl (.inr rfl)) (pgs_cons (pg_name (i := 2) nd rfl (.inr rfl)) pgs_nil)))))
    (hCons (hFor (ps_for ps rfl (jRg2 (by rfl) T.z_range (aCons dInt (aCons (dBin op_addD o_add (dCb call_len c_len (by rfl) T.z_len (by decide +kernel) (aCons (dVar (pv 0)) aNil)) dInt) aNil))) (kN (pg_name (i := 3) nd rfl (.inr rfl))) (hOne (hFor (ps_for ps rfl (jSeq (dCall G__law_rows (hr.mono (by omega)) (by rfl) T.m__law_rows T.k__law_rows T.b__law_rows tk (aCons (dVar (pv 3)) aNil) (lCons_len lNil_len))) (kN (pg_name (i := 4) nd rfl (.inl rfl))) (hCons (hPar2 (ps_par (i := 5) (j := 6) rfl nd rfl rfl (by decide) rfl rfl (jVal (dCall G__law_end (hr.mono (by omega)) (by rfl) T.m__law_end T.k__law_end T.b__law_end tk (aCons (dVar (pv 0)) (aCons (dVar (pv 4)) aNil)) (lCons_len (lCons_len lNil_len))) (jVal (dCb call_len c_len (by rfl) T.z_len (by decide +kernel) (aCons (dFE (dLc (pe_lc (own := [("sign", 7)]) rfl nd (jSeq (dVar (pv 4))) (blkOk_by (N := ["plan", "counts", "open_ones", "many", "row", "end", "ups", "sign"]) (sc := defScope st__law_small_right) (by decide +kernel)) (fun _ _ _ _ _ => (kN (pg_name (i := 7) nd rfl (.inl rfl)))) (fun _ _ _ _ _ => (pts_one (bCmp (op_eqD hu64) o_eq (dVar (pv 7)) (dStr) (nomark _)))) (fun _ _ _ _ _ => (dVar (pv 7)))))) aNil)) jNil)) (by rfl)))
    (hCons (hIf (bPW (wAnd (bCmp op_notN o_notN (dVar (pv 5)) dNon (nomark _)) (wAnd1 (bCmp (op_eqD hu64) o_eq (dIx (dVar (pv 5)) dInt (fun _ _ => rfl)) (dVar (pv 3)) (nomark _))))) (hOne (hPutT (ps_dput hu (pv 1) (dKey (aCons (dVar (pv 3)) (aCons (dVar (pv 6)) aNil))) (dBin op_addD o_add (dBor (dGet2T hu (dVar (pv 1)) (aCons (dVar (pv 3)) (aCons (dVar (pv 6)) aNil)) dInt ⟨rfl, rfl, rfl, rfl⟩) (pl_Get2T (pl_Var 1) (pl_lCons (pl_Var 3) (pl_lCons (pl_Var 6) pl_lNil)) (pl_C _))) dInt) (by rfl)))) hNil)
    (hOne (hIf (bCmp op_isN o_isN (dVar (pv 5)) dNon (nomark _)) (hOne (hPutT (ps_dput hu (pv 2) (dKey (aCons (dVar (pv 3)) (aCons (dVar (pv 6)) aNil))) (dBin op_addD o_add (dBor (dGet2T hu (dVar (pv 2)) (aCons (dVar (pv 3)) (aCons (dVar (pv 6)) aNil)) dInt ⟨rfl, rfl, rfl, rfl⟩) (pl_Get2T (pl_Var 2) (pl_lCons (pl_Var 3) (pl_lCons (pl_Var 6) pl_lNil)) (pl_C _))) dInt) (by rfl)))) hNil)))))))))
    (hCons (hFrz (i := 1) (hIf (bNotE (bValE (dCall G__law_like (hr.mono (by omega)) (by rfl) T.m__law_like T.k__law_like T.b__law_like tk (aCons (dCall G_end_points (hr.mono (by omega)) (by rfl) T.m_end_points T.k_end_points T.b_end_points tk (aCons (dVar (pv 0)) aNil) (lCons_len lNil_len)) (aCons (dCty call_tuple_of c_tuple (by rfl) T.z_tuple (by decide +kernel) (aCons (dFE (dLc (pe_lc (own := [("many", 3), ("ups", 6)]) rfl nd (jSeq (dFE (dCbF (call_sortA rfl) c_sortedA (by rfl) T.z_sorted (by decide +kernel) (aCons (dVar (pv 1)) aNil)))) (blkOk_by (N := ["plan", "counts", "open_ones", "many", "row", "end", "ups", "sign"]) (sc := defScope st__law_small_right) (by decide +kernel)) (fun _ _ _ _ _ => (kT (pg_tup rfl (kC (kN (pg_name (i := 3) nd rfl (.inl rfl))) (kC (kN (pg_name (i := 6) nd rfl (.inl rfl))) kE (pgs_cons (kN (pg_name (i := 6) nd rfl (.inl rfl))) kE)) (pgs_cons (kN (pg_name (i := 3) nd rfl (.inl rfl))) (kC (kN (pg_name (i := 6) nd rfl (.inl rfl))) kE (pgs_cons (kN (pg_name (i := 6) nd rfl (.inl rfl))) kE))))) (gs_len (gs_len gE_len)))) (fun _ _ _ _ _ => bNilT) (fun _ _ _ _ _ => (dTup (aCons (dVar (pv 3)) (aCons (dVar (pv 6)) (aCons (dBor (dGetT hu (dVar (pv 1)) (aCons (dVar (pv 3)) (aCons (dVar (pv 6)) aNil))) (pl_GetT (pl_Var 1) (pl_lCons (pl_Var 3) (pl_lCons (pl_Var 6) pl_lNil)))) aNil)))))))) aNil)) aNil)) (lCons_len (lCons_len lNil_len))))) (hOne (hRet dBl)) hNil))
    (hCons (hFor (ps_for ps rfl (jRg2 (by rfl) T.z_range (aCons dInt (aCons (dBin op_addD o_add (dCb call_len c_len (by rfl) T.z_len (by decide +kernel) (aCons (dVar (pv 0)) aNil)) dInt) aNil))) (kN (pg_name (i := 3) nd rfl (.inr rfl))) (hOne (hIf (bNotE (bValE (dCall G__law_like (hr.mono (by omega)) (by rfl) T.m__law_like T.k__law_like T.b__law_like tk (aCons (dCall G_open_counts (hr.mono (by omega)) (by rfl) T.m_open_counts T.k_open_counts T.b_open_counts tk (aCons (dVar (pv 0)) (aCons (dVar (pv 3)) aNil)) (lCons_len (lCons_len lNil_len))) (aCons (dCty call_tuple_of c_tuple (by rfl) T.z_tuple (by decide +kernel) (aCons (dFE (dLc (pe_lc (own := [("ups", 6)]) rfl nd (jRg1 (by rfl) T.z_range (aCons (dBin op_addD o_add (dVar (pv 3)) dInt) aNil)) (blkOk_by (N := ["plan", "counts", "open_ones", "many", "row", "end", "ups", "sign"]) (sc := defScope st__law_small_right) (by decide +kernel)) (fun _ _ _ _ _ => (kN (pg_name (i := 6) nd rfl (.inl rfl)))) (fun _ _ _ _ _ => bNilT) (fun _ _ _ _ _ => (dBor (dGet2T hu (dVar (pv 2)) (aCons (dVar (pv 3)) (aCons (dVar (pv 6)) aNil)) dInt ⟨rfl, rfl, rfl, rfl⟩) (pl_Get2T (pl_Var 2) (pl_lCons (pl_Var 3) (pl_lCons (pl_Var 6) pl_lNil)) (pl_C _))))))) aNil)) aNil)) (lCons_len (lCons_len lNil_len))))) (hOne (hRet dBl)) hNil))))
    (hOne (hRet dBl))))))
theorem ok__law_points (T : Txt K mg ad fd) (F : Fun K "_law_points" "_law_points" st__law_points (ad 23) (fd 23)) : FnOk P w K mg base (L2.CX P w) 1 (ad 23) (fd 23) ["plan"] (SpD K cl 1 g__law_points) := show FnOk P w K mg base (L2.CX P w) 1 (ad 23) (fd 23) ["plan"] (SpD K cl 1 (bodyD F__law_points 9)) from okD2 (k := 0) (N := ["plan", "here", "found", "at", "low", "high", "later", "ups", "own"]) (ps := ["plan"]) F__law_points F sc__law_points rfl rfl (by decide) fun cdv A outer s H E hr => by
  have nd := sc__law_points.nd
  have hu := hu_of hr
  have hu64 := hr.units
  have tk : Takes (cxOf (L2.CX P w) P w K mg base ["plan", "here", "found", "at", "low", "high", "later", "ups", "own"] "_law_points" (defScope st__law_points) (ad 23) cdv A outer s H E) (WE0 E) := takes_of rfl rfl rfl rfl
  have ps : PassesOwn (model P w) (cxOf (L2.CX P w) P w K mg base ["plan", "here", "found", "at", "low", "high", "later", "ups", "own"] "_law_points" (defScope st__law_points) (ad 23) cdv A outer s H E).A (cxOf (L2.CX P w) P w K mg base ["plan", "here", "found", "at", "low", "high", "later", "ups", "own"] "_law_points" (defScope st__law_points) (ad 23) cdv A outer s H E).env (cxOf (L2.CX P w) P w K mg base ["plan", "here", "found", "at", "low", "high", "later", "ups", "own"] "_law_points" (defScope st__law_points) (ad 23) cdv A outer s H E).xe := passes_of rfl
  exact (hCons (hPar2 (ps_par (i := 1) (j := 2) rfl nd rfl rfl (by decide) rfl rfl (jNew (dDisp1 pe_int pe_int fun _ _ => .int _) (jNew (dLst aNil) jNil pl_mNil) (pl_mNew (pl_Lst pl_lNil) pl_mNil)) (by rfl)))
    (hCons (hFor (ps_for ps rfl (jEnumA (dVar (pv 0)) (by rfl) T.z_enumerate) (kT (pg_tup rfl (kC (kN (pg_name (i := 3) nd rfl (.inl rfl))) (kC (kT (pg_tup rfl (kC (kN (pg_name (i := 4) nd rfl (.inl rfl))) (kC (kN (pg_name (i := 5) nd rfl (.inl rfl))) kE (pgs_cons (kN (pg_name (i := 5) nd rfl (.inl rfl))) kE)) (pgs_cons (kN (pg_name (i := 4) nd rfl (.inl rfl))) (kC (kN (pg_name (i := 5) nd rfl (.inl rfl))) kE (pgs_cons (kN (pg_name (i := 5) nd rfl (.inl rfl))) kE))))) (gs_len (gs_len gE_len))) kE (pgs_cons (kT (pg_tup rfl (kC (kN (pg_name (i := 4) nd rfl (.inl rfl))) (kC (kN (pg_name (i := 5) nd rfl (.inl rfl))) kE (pgs_cons (kN (pg_name (i := 5) nd rfl (.inl rfl))) kE)) (pgs_cons (kN (pg_name (i := 4) nd rfl (.inl rfl))) (kC (kN (pg_name (i := 5) nd rfl (.inl rfl))) kE (pgs_cons (kN (pg_name (i := 5) nd rfl (.inl rfl))) kE))))) (gs_len (gs_len gE_len))) kE)) (pgs_cons (kN (pg_name (i := 3) nd rfl (.inl rfl))) (kC (kT (pg_tup rfl (kC (kN (pg_name (i := 4) nd rfl (.inl rfl))) (kC (kN (pg_name (i := 5) nd rfl (.inl rfl))) kE (pgs_cons (kN (pg_name (i := 5) nd rfl (.inl rfl))) kE)) (pgs_cons (kN (pg_name (i := 4) nd rfl (.inl rfl))) (kC (kN (pg_name (i := 5) nd rfl (.inl rfl))) kE (pgs_cons (kN (pg_name (i := 5) nd rfl (.inl rfl))) kE))))) (gs_len (gs_len gE_len))) kE (pgs_cons (kT (pg_tup rfl (kC (kN (pg_name (i := 4) nd rfl (.inl rfl))) (kC (kN (pg_name (i := 5) nd rfl (.inl rfl))) kE (pgs_cons (kN (pg_name (i := 5) nd rfl (.inl rfl))) kE)) (pgs_cons (kN (pg_name (i := 4) nd rfl (.inl rfl))) (kC (kN (pg_name (i := 5) nd rfl (.inl rfl))) kE (pgs_cons (kN (pg_name (i := 5) nd rfl (.inl rfl))) kE))))) (gs_len (gs_len gE_len))) kE))))) (gs_len (gs_len gE_len))) (hCons (hAsgF (ps_set (i := 6) nd rfl (.inl rfl) dNewK))
    (hCons (hForK (ps_for ps rfl (pi_keys (pv 1)) (kN (pg_name (i := 7) nd rfl (.inl rfl))) (hOne (hFor (ps_for ps rfl (jSeq (dTup (aCons (dVar (pv 7)) (aCons (dBin op_addD o_add (dVar (pv 7)) dInt) aNil)))) (kN (pg_name (i := 8) nd rfl (.inl rfl))) (hOne (hPutK (ps_dput hu (pv 6) (dVar (pv 8)) (dBin op_addD o_add (dBor (dGet2K hu (dVar (pv 6)) (dVar (pv 8)) dInt ⟨rfl, rfl, rfl, rfl⟩) (pl_Get2K (pl_Var 6) (pl_Var 8) (pl_C _))) (dBor (dGetK hu (dVar (pv 1)) (dVar (pv 7))) (pl_GetK (pl_Var 1) (pl_Var 7)))) (by rfl)))))))))
    (hCons (hAsgF (ps_set (i := 1) nd rfl (.inl rfl) dNewK))
    (hOne (hFrz (i := 6) (hFor (ps_for ps rfl (jSeq (dFE (dCbF (call_sortA rfl) c_sortedA (by rfl) T.z_sorted (by decide +kernel) (aCons (dVar (pv 6)) aNil)))) (kN (pg_name (i := 8) nd rfl (.inl rfl))) (hOne (hIf (bChain op_lt o_cmpI op_lt o_cmpI (dVar (pv 4)) (dVar (pv 8)) (dVar (pv 5))) (hOne (hPutK (ps_dput hu (pv 1) (dVar (pv 8)) (dBor (dGetK hu (dVar (pv 6)) (dVar (pv 8))) (pl_GetK (pl_Var 6) (pl_Var 8))) (by rfl)))) (hOne (hApp (ps_expr (pe_bm PySem.F.plainAttrs_list PySem.F.slot_list_append PySem.F.type_list_append mt_append (pv 2) (pa_cons (dTup (aCons (dBin op_addD o_add (dVar (pv 3)) dInt) (aCons (dVar (pv 8)) (aCons (dBor (dGetK hu (dVar (pv 6)) (dVar (pv 8))) (pl_GetK (pl_Var 6) (pl_Var 8))) aNil)))) pa_nil))))))))))))))))
    (hOne (hFrz (i := 2) (hRet (dVar (pv 2)))))))
theorem ok__law_some (T : Txt K mg ad fd) (F : Fun K "_law_some" "_law_some" st__law_some (ad 24) (fd 24)) (G__law_roll : FnOk P w K mg base (L2.CX P w) 1 (ad 1) (fd 1) ["cup", "many"] (SpD K cl 2 g__law_roll)) : FnOk P w K mg base (L2.CX P w) 2 (ad 24) (fd 24) ["cup", "things"] (SpD K cl 2 g__law_some) := show FnOk P w K mg base (L2.CX P w) 2 (ad 24) (fd 24) ["cup", "things"] (SpD K cl 2 (bodyD F__law_some 2)) from okD2 (k := 1) (N := ["cup", "things"]) (ps := ["cup", "things"]) F__law_some F sc__law_some rfl rfl (by decide) fun cdv A outer s H E hr => by
  have nd := sc__law_some.nd
  have hu := hu_of hr
  have hu64 := hr.units
  have tk : Takes (cxOf (L2.CX P w) P w K mg base ["cup", "things"] "_law_some" (defScope st__law_some) (ad 24) cdv A outer s H E) (WE0 E) := takes_of rfl rfl rfl rfl
  have ps : PassesOwn (model P w) (cxOf (L2.CX P w) P w K mg base ["cup", "things"] "_law_some" (defScope st__law_some) (ad 24) cdv A outer s H E).A (cxOf (L2.CX P w) P w K mg base ["cup", "things"] "_law_some" (defScope st__law_some) (ad 24) cdv A outer s H E).env (cxOf (L2.CX P w) P w K mg base ["cup", "things"] "_law_some" (defScope st__law_some) (ad 24) cdv A outer s H E).xe := passes_of rfl
  exact (hOne (hRet (dIx (dVar (pv 1)) (dCall G__law_roll (hr.mono (by omega)) (by rfl) T.m__law_roll T.k__law_roll T.b__law_roll tk (aCons (dVar (pv 0)) (aCons (dCb call_len c_len (by rfl) T.z_len (by decide +kernel) (aCons (dVar (pv 1)) aNil)) aNil)) (lCons_len (lCons_len lNil_len))) (fun _ _ => rfl))))
theorem ok__law_row (T : Txt K mg ad fd) (F : Fun K "_law_row" "_law_row" st__law_row (ad 25) (fd 25)) (G__law_roll : FnOk P w K mg base (L2.CX P w) 1 (ad 1) (fd 1) ["cup", "many"] (SpD K cl 2 g__law_roll)) (G__law_some : FnOk P w K mg base (L2.CX P w) 2 (ad 24) (fd 24) ["cup", "things"] (SpD K cl 2 g__law_some)) : FnOk P w K mg base (L2.CX P w) 3 (ad 25) (fd 25) ["cup", "most"] (SpD K cl 2 g__law_row) := show FnOk P w K mg base (L2.CX P w) 3 (ad 25) (fd 25) ["cup", "most"] (SpD K cl 2 (bodyD F__law_row 4)) from okD2 (k := 2) (N := ["cup", "most", "found", "turn"]) (ps := ["cup", "most"]) F__law_row F sc__law_row rfl rfl (by decide) fun cdv A outer s H E hr => by
  have nd := sc__law_row.nd
  have hu := hu_of hr
  have hu64 := hr.units
  have tk : Takes (cxOf (L2.CX P w) P w K mg base ["cup", "most", "found", "turn"] "_law_row" (defScope st__law_row) (ad 25) cdv A outer s H E) (WE0 E) := takes_of rfl rfl rfl rfl
  have ps : PassesOwn (model P w) (cxOf (L2.CX P w) P w K mg base ["cup", "most", "found", "turn"] "_law_row" (defScope st__law_row) (ad 25) cdv A outer s H E).A (cxOf (L2.CX P w) P w K mg base ["cup", "most", "found", "turn"] "_law_row" (defScope st__law_row) (ad 25) cdv A outer s H E).env (cxOf (L2.CX P w) P w K mg base ["cup", "most", "found", "turn"] "_law_row" (defScope st__law_row) (ad 25) cdv A outer s H E).xe := passes_of rfl
  exact (hCons (hAsg (ps_set (i := 2) nd rfl (.inl rfl) (dStr)))
    (hCons (hFor (ps_for ps rfl (jRg1 (by rfl) T.z_range (aCons (dCall G__law_roll (hr.mono (by omega)) (by rfl) T.m__law_roll T.k__law_roll T.b__law_roll tk (aCons (dVar (pv 0)) (aCons (dBin op_addD o_add (dVar (pv 1)) dInt) aNil)) (lCons_len (lCons_len lNil_len))) aNil)) (kN (pg_name (i := 3) nd rfl (.inl rfl))) (hOne (hAsg (ps_set (i := 2) nd rfl (.inl rfl) (dBin op_addD o_add (dVar (pv 2)) (dCall G__law_some (hr.mono (by omega)) (by rfl) T.m__law_some T.k__law_some T.b__law_some tk (aCons (dVar (pv 0)) (aCons (dStr) aNil)) (lCons_len (lCons_len lNil_len)))))))))
    (hOne (hRet (dVar (pv 2))))))
theorem ok__law_power (T : Txt K mg ad fd) (F : Fun K "_law_power" "_law_power" st__law_power (ad 26) (fd 26)) : FnOk P w K mg base (L2.CX P w) 1 (ad 26) (fd 26) ["number", "times"] (SpD K cl 2 g__law_power) := show FnOk P w K mg base (L2.CX P w) 1 (ad 26) (fd 26) ["number", "times"] (SpD K cl 2 (bodyD F__law_power 4)) from okD2 (k := 0) (N := ["number", "times", "found", "turn"]) (ps := ["number", "times"]) F__law_power F sc__law_power rfl rfl (by decide) fun cdv A outer s H E hr => by
  have nd := sc__law_power.nd
  have hu := hu_of hr
  have hu64 := hr.units
  have tk : Takes (cxOf (L2.CX P w) P w K mg base ["number", "times", "found", "turn"] "_law_power" (defScope st__law_power) (ad 26) cdv A outer s H E) (WE0 E) := takes_of rfl rfl rfl rfl
  have ps : PassesOwn (model P w) (cxOf (L2.CX P w) P w K mg base ["number", "times", "found", "turn"] "_law_power" (defScope st__law_power) (ad 26) cdv A outer s H E).A (cxOf (L2.CX P w) P w K mg base ["number", "times", "found", "turn"] "_law_power" (defScope st__law_power) (ad 26) cdv A outer s H E).env (cxOf (L2.CX P w) P w K mg base ["number", "times", "found", "turn"] "_law_power" (defScope st__law_power) (ad 26) cdv A outer s H E).xe := passes_of rfl
  exact (hCons (hAsg (ps_set (i := 2) nd rfl (.inl rfl) dInt))
    (hCons (hFor (ps_for ps rfl (jRg1 (by rfl) T.z_range (aCons (dVar (pv 1)) aNil)) (kN (pg_name (i := 3) nd rfl (.inl rfl))) (hOne (hAsg (ps_set (i := 2) nd rfl (.inl rfl) (dBin op_mulD o_mul (dVar (pv 2)) (dVar (pv 0))))))))
    (hOne (hRet (dVar (pv 2))))))
theorem ok__law_right (T : Txt K mg ad fd) (F : Fun K "_law_right" "_law_right" st__law_right (ad 27) (fd 27)) (G__law_points : FnOk P w K mg base (L2.CX P w) 1 (ad 23) (fd 23) ["plan"] (SpD K cl 1 g__law_points)) (G_is_end_plan : FnOk P w K mg base (L2.CX P w) 5 (ad 9) (fd 9) ["value"] (SpD K cl 1 g_is_end_plan)) (G_end_points : FnOk P w K mg base (L2.CX P w) 6 (ad 16) (fd 16) ["plan"] (SpD K cl 1 g_end_points)) (G__law_like : FnOk P w K mg base (L2.CX P w) 14 (ad 3) (fd 3) ["one", "other"] (SpD K cl 2 (g__law_like 12))) (G__law_row : FnOk P w K mg base (L2.CX P w) 3 (ad 25) (fd 25) ["cup", "most"] (SpD K cl 2 g__law_row)) (G_end_of_row : FnOk P w K mg base (L2.CX P w) 6 (ad 13) (fd 13) ["plan", "row"] (SpD K cl 2 g_end_of_row)) (G__law_end : FnOk P w K mg base (L2.CX P w) 1 (ad 21) (fd 21) ["plan", "row"] (SpD K cl 2 g__law_end)) (G_open_counts : FnOk P w K mg base (L2.CX P w) 6 (ad 18) (fd 18) ["plan", "many"] (SpD K cl 2 g_open_counts)) (G__law_roll : FnOk P w K mg base (L2.CX P w) 1 (ad 1) (fd 1) ["cup", "many"] (SpD K cl 2 g__law_roll)) (G__law_power : FnOk P w K mg base (L2.CX P w) 1 (ad 26) (fd 26) ["number", "times"] (SpD K cl 2 g__law_power)) : FnOk P w K mg base (L2.CX P w) 15 (ad 27) (fd 27) ["cup", "plan"] (SpD K cl 2 g__law_right) := show FnOk P w K mg base (L2.CX P w) 15 (ad 27) (fd 27) ["cup", "plan"] (SpD K cl 2 (bodyD F__law_right 10)) from okD2 (k := 14) (N := ["cup", "plan", "points", "turn", "row", "many", "ended", "trials", "ups", "ways"]) (ps := ["cup", "plan"]) F__law_right F sc__law_right rfl rfl (by decide) fun cdv A outer s H E hr => by
  have nd := sc__law_right.nd
  have hu := hu_of hr
  have hu64 := hr.units
  have tk : Takes (cxOf (L2.CX P w) P w K mg base ["cup", "plan", "points", "turn", "row", "many", "ended", "trials", "ups", "ways"] "_law_right" (defScope st__law_right) (ad 27) cdv A outer s H E) (WE0 E) := takes_of rfl rfl rfl rfl
  have ps : PassesOwn (model P w) (cxOf (L2.CX P w) P w K mg base ["cup", "plan", "points", "turn", "row", "many", "ended", "trials", "ups", "ways"] "_law_right" (defScope st__law_right) (ad 27) cdv A outer s H E).A (cxOf (L2.CX P w) P w K mg base ["cup", "plan", "points", "turn", "row", "many", "ended", "trials", "ups", "ways"] "_law_right" (defScope st__law_right) (ad 27) cdv A outer s H E).env (cxOf (L2.CX P w) P w K mg base ["cup", "plan", "points", "turn", "row", "many", "ended", "trials", "ups", "ways"] "_law_right" (defScope st__law_right) (ad 27) cdv A outer s H E).xe := passes_of rfl
  exact (hCons (hAsg (ps_set (i := 2) nd rfl (.inl rfl) (dCall G__law_points (hr.mono (by omega)) (by rfl) T.m__law_points T.k__law_points T.b__law_points tk (aCons (dVar (pv 1)) aNil) (lCons_len lNil_len))))
    (hCons (hIf (bNotE (bValE (dCall G__law_like (hr.mono (by omega)) (by rfl) T.m__law_like T.k__law_like T.b__law_like tk (aCons (dFE (dLst (aCons (dCall G_is_end_plan (hr.mono (by omega)) (by rfl) T.m_is_end_plan T.k_is_end_plan T.b_is_end_plan tk (aCons (dVar (pv 1)) aNil) (lCons_len lNil_len)) (aCons (dCall G_end_points (hr.mono (by omega)) (by rfl) T.m_end_points T.k_end_points T.b_end_points tk (aCons (dVar (pv 1)) aNil) (lCons_len lNil_len)) aNil)))) (aCons (dFE (dLst (aCons dBl (aCons (dCty call_tuple_of c_tuple (by rfl) T.z_tuple (by decide +kernel) (aCons (dVar (pv 2)) aNil)) aNil)))) aNil)) (lCons_len (lCons_len lNil_len))))) (hOne (hRet dBl)) hNil)
    (hCons (hFor (ps_for ps rfl (jRg1 (by rfl) T.z_range (aCons dInt aNil)) (kN (pg_name (i := 3) nd rfl (.inl rfl))) (hCons (hAsg (ps_set (i := 4) nd rfl (.inl rfl) (dCall G__law_row (hr.mono (by omega)) (by rfl) T.m__law_row T.k__law_row T.b__law_row tk (aCons (dVar (pv 0)) (aCons (dCb call_len c_len (by rfl) T.z_len (by decide +kernel) (aCons (dVar (pv 1)) aNil)) aNil)) (lCons_len (lCons_len lNil_len)))))
    (hOne (hIf (bNotE (bValE (dCall G__law_like (hr.mono (by omega)) (by rfl) T.m__law_like T.k__law_like T.b__law_like tk (aCons (dCall G_end_of_row (hr.mono (by omega)) (by rfl) T.m_end_of_row T.k_end_of_row T.b_end_of_row tk (aCons (dVar (pv 1)) (aCons (dVar (pv 4)) aNil)) (lCons_len (lCons_len lNil_len))) (aCons (dCall G__law_end (hr.mono (by omega)) (by rfl) T.m__law_end T.k__law_end T.b__law_end tk (aCons (dVar (pv 1)) (aCons (dVar (pv 4)) aNil)) (lCons_len (lCons_len lNil_len))) aNil)) (lCons_len (lCons_len lNil_len))))) (hOne (hRet dBl)) hNil)))))
    (hCons (hIf (bNotE (bValE (dCall G__law_like (hr.mono (by omega)) (by rfl) T.m__law_like T.k__law_like T.b__law_like tk (aCons (dFE (dLst (aCons (dCall G_end_of_row (hr.mono (by omega)) (by rfl) T.m_end_of_row T.k_end_of_row T.b_end_of_row tk (aCons (dVar (pv 1)) (aCons (dStr) aNil)) (lCons_len (lCons_len lNil_len))) (aCons (dCall G_open_counts (hr.mono (by omega)) (by rfl) T.m_open_counts T.k_open_counts T.b_open_counts tk (aCons (dVar (pv 1)) (aCons dInt aNil)) (lCons_len (lCons_len lNil_len))) (aCons (dCb (call_sumA rfl) c_sumA (by rfl) T.z_sum (by decide +kernel) (aCons (dCall G_open_counts (hr.mono (by omega)) (by rfl) T.m_open_counts T.k_open_counts T.b_open_counts tk (aCons (dVar (pv 1)) (aCons (dCb call_len c_len (by rfl) T.z_len (by decide +kernel) (aCons (dVar (pv 1)) aNil)) aNil)) (lCons_len (lCons_len lNil_len))) aNil)) aNil))))) (aCons (dFE (dLst (aCons dNon (aCons (dTup (aCons dInt aNil)) (aCons dInt aNil))))) aNil)) (lCons_len (lCons_len lNil_len))))) (hOne (hRet dBl)) hNil)
    (hCons (hAsg (ps_set (i := 5) nd rfl (.inr rfl) (dCall G__law_roll (hr.mono (by omega)) (by rfl) T.m__law_roll T.k__law_roll T.b__law_roll tk (aCons (dVar (pv 0)) (aCons (dBin op_addD o_add (dCb call_len c_len (by rfl) T.z_len (by decide +kernel) (aCons (dVar (pv 1)) aNil)) dInt) aNil)) (lCons_len (lCons_len lNil_len)))))
    (hCons (hAsg (ps_set (i := 6) nd rfl (.inl rfl) (dCb (call_sumA rfl) c_sumA (by rfl) T.z_sum (by decide +kernel) (aCons (dFE (dLc (pe_lc (own := [("trials", 7), ("ups", 8), ("ways", 9)]) rfl nd (jSeq (dVar (pv 2))) (blkOk_by (N := ["cup", "plan", "points", "turn", "row", "many", "ended", "trials", "ups", "ways"]) (sc := defScope st__law_right) (by decide +kernel)) (fun _ _ _ _ _ => (kT (pg_tup rfl (kC (kN (pg_name (i := 7) nd rfl (.inl rfl))) (kC (kN (pg_name (i := 8) nd rfl (.inl rfl))) (kC (kN (pg_name (i := 9) nd rfl (.inl rfl))) kE (pgs_cons (kN (pg_name (i := 9) nd rfl (.inl rfl))) kE)) (pgs_cons (kN (pg_name (i := 8) nd rfl (.inl rfl))) (kC (kN (pg_name (i := 9) nd rfl (.inl rfl))) kE (pgs_cons (kN (pg_name (i := 9) nd rfl (.inl rfl))) kE)))) (pgs_cons (kN (pg_name (i := 7) nd rfl (.inl rfl))) (kC (kN (pg_name (i := 8) nd rfl (.inl rfl))) (kC (kN (pg_name (i := 9) nd rfl (.inl rfl))) kE (pgs_cons (kN (pg_name (i := 9) nd rfl (.inl rfl))) kE)) (pgs_cons (kN (pg_name (i := 8) nd rfl (.inl rfl))) (kC (kN (pg_name (i := 9) nd rfl (.inl rfl))) kE (pgs_cons (kN (pg_name (i := 9) nd rfl (.inl rfl))) kE))))))) (gs_len (gs_len (gs_len gE_len))))) (fun _ _ _ _ _ => (pts_one (bCmp op_le o_cmpI (dVar (pv 7)) (dVar (pv 5)) (nomark _)))) (fun _ _ _ _ _ => (dBin op_mulD o_mul (dVar (pv 9)) (dCall G__law_power (hr.mono (by omega)) (by rfl) T.m__law_power T.k__law_power T.b__law_power takes0 (aCons dInt (aCons (dBin op_sub o_sub (dVar (pv 5)) (dVar (pv 7))) aNil)) (lCons_len (lCons_len lNil_len)))))))) aNil))))
    (hOne (hRet (dCall G__law_like (hr.mono (by omega)) (by rfl) T.m__law_like T.k__law_like T.b__law_like tk (aCons (dFE (dLst (aCons (dCb call_len c_len (by rfl) T.z_len (by decide +kernel) (aCons (dCall G_open_counts (hr.mono (by omega)) (by rfl) T.m_open_counts T.k_open_counts T.b_open_counts tk (aCons (dVar (pv 1)) (aCons (dVar (pv 5)) aNil)) (lCons_len (lCons_len lNil_len))) aNil)) (aCons (dBin op_addD o_add (dCb (call_sumA rfl) c_sumA (by rfl) T.z_sum (by decide +kernel) (aCons (dCall G_open_counts (hr.mono (by omega)) (by rfl) T.m_open_counts T.k_open_counts T.b_open_counts tk (aCons (dVar (pv 1)) (aCons (dVar (pv 5)) aNil)) (lCons_len (lCons_len lNil_len))) aNil)) (dVar (pv 6))) aNil)))) (aCons (dFE (dLst (aCons (dBin op_addD o_add (dVar (pv 5)) dInt) (aCons (dCall G__law_power (hr.mono (by omega)) (by rfl) T.m__law_power T.k__law_power T.b__law_power tk (aCons dInt (aCons (dVar (pv 5)) aNil)) (lCons_len (lCons_len lNil_len))) aNil)))) aNil)) (lCons_len (lCons_len lNil_len)))))))))))
theorem ok__law_bent (T : Txt K mg ad fd) (F : Fun K "_law_bent" "_law_bent" st__law_bent (ad 28) (fd 28)) (G__law_roll : FnOk P w K mg base (L2.CX P w) 1 (ad 1) (fd 1) ["cup", "many"] (SpD K cl 2 g__law_roll)) (G__law_sort : FnOk P w K mg base (L2.CX P w) 1 (ad 2) (fd 2) ["value"] (SpD K cl 1 g__law_sort)) (G__law_some : FnOk P w K mg base (L2.CX P w) 2 (ad 24) (fd 24) ["cup", "things"] (SpD K cl 2 g__law_some)) : ∀ n : Nat, FnOk P w K mg base (L2.CX P w) (n + 3) (ad 28) (fd 28) ["cup", "value"] (SpD K cl 2 (g__law_bent n))
  | 0 => (ok02 (k := 2) F sc__law_bent rfl).mono (by omega)
  | n + 1 => by
    have G__law_bent := ok__law_bent T F G__law_roll G__law_sort G__law_some n
    refine FnOk.mono (j := n + 3 + 1) (show FnOk P w K mg base (L2.CX P w) (n + 3 + 1) (ad 28) (fd 28) ["cup", "value"] (SpD K cl 2 (bodyD (F__law_bent (g__law_bent n)) 5)) from okD2 (k := n + 3) (N := ["cup", "value", "some", "at", "way"]) (ps := ["cup", "value"]) (F__law_bent (g__law_bent n)) F sc__law_bent rfl rfl (by decide) fun cdv A outer s H E hr => ?_) (by omega)
    have nd := sc__law_bent.nd
    have hu := hu_of hr
    have hu64 := hr.units
    have tk : Takes (cxOf (L2.CX P w) P w K mg base ["cup", "value", "some", "at", "way"] "_law_bent" (defScope st__law_bent) (ad 28) cdv A outer s H E) (WE0 E) := takes_of rfl rfl rfl rfl
    have ps : PassesOwn (model P w) (cxOf (L2.CX P w) P w K mg base ["cup", "value", "some", "at", "way"] "_law_bent" (defScope st__law_bent) (ad 28) cdv A outer s H E).A (cxOf (L2.CX P w) P w K mg base ["cup", "value", "some", "at", "way"] "_law_bent" (defScope st__law_bent) (ad 28) cdv A outer s H E).env (cxOf (L2.CX P w) P w K mg base ["cup", "value", "some", "at", "way"] "_law_bent" (defScope st__law_bent) (ad 28) cdv A outer s H E).xe := passes_of rfl
    exact (hCons (hIf (bPW (wOr (bNotE (bValE (dIsi Ty.tuple (by rfl) T.z_isinstance (by rfl) T.z_tuple (by decide +kernel) (dVar (pv 1))))) (wOr (bCmp (op_eqD hu64) o_eq (dVar (pv 1)) (dTup aNil) (nomark _)) (wOr1 (bCmp (op_eqD hu64) o_eq (dCall G__law_roll (hr.mono (by omega)) (by rfl) T.m__law_roll T.k__law_roll T.b__law_roll tk (aCons (dVar (pv 0)) (aCons dInt aNil)) (lCons_len (lCons_len lNil_len))) dInt (nomark _)))))) (hCons (hAsg (ps_set (i := 2) nd rfl (.inl rfl) (dFE (dLst (aCons dNon (aCons dBl (aCons dBl (aCons dInt (aCons dInt (aCons dInt (aCons dInt (aCons (dUn un_neg o_neg dInt) (aCons (dStr) (aCons (dTup (aCons dInt (aCons dInt aNil))) (aCons (dTup (aCons (dUn un_neg o_neg dInt) (aCons dInt aNil))) (aCons dInt (aCons dInt (aCons (dTup aNil) (aCons (dFE (dLst aNil)) aNil)))))))))))))))))))
    (hCons (hIf (bCmp (op_eqD hu64) o_eq (dCall G__law_sort (hr.mono (by omega)) (by rfl) T.m__law_sort T.k__law_sort T.b__law_sort tk (aCons (dVar (pv 1)) aNil) (lCons_len lNil_len)) dInt (nomark _)) (hOne (hAsg (ps_set (i := 2) nd rfl (.inl rfl) (dBin op_addD o_add (dVar (pv 2)) (dFE (dLst (aCons (dBin op_addD o_add (dVar (pv 1)) dInt) (aCons (dBin op_addD o_add (dVar (pv 1)) dInt) (aCons (dBin op_sub o_sub (dVar (pv 1)) dInt) aNil))))))))) hNil)
    (hOne (hRet (dCall G__law_some (hr.mono (by omega)) (by rfl) T.m__law_some T.k__law_some T.b__law_some tk (aCons (dVar (pv 0)) (aCons (dVar (pv 2)) aNil)) (lCons_len (lCons_len lNil_len))))))) hNil)
    (hCons (hPar2 (ps_par (i := 3) (j := 4) rfl nd rfl rfl (by decide) rfl rfl (jVal (dCall G__law_roll (hr.mono (by omega)) (by rfl) T.m__law_roll T.k__law_roll T.b__law_roll tk (aCons (dVar (pv 0)) (aCons (dCb call_len c_len (by rfl) T.z_len (by decide +kernel) (aCons (dVar (pv 1)) aNil)) aNil)) (lCons_len (lCons_len lNil_len))) (jVal (dCall G__law_roll (hr.mono (by omega)) (by rfl) T.m__law_roll T.k__law_roll T.b__law_roll tk (aCons (dVar (pv 0)) (aCons dInt aNil)) (lCons_len (lCons_len lNil_len))) jNil)) (by rfl)))
    (hCons (hIf (bCmp (op_eqD hu64) o_eq (dVar (pv 4)) dInt (nomark _)) (hOne (hRet (dBin op_addD o_add (dSl (dVar (pv 1)) dONone (dOSome (dVar (pv 3)))) (dSl (dVar (pv 1)) (dOSome (dBin op_addD o_add (dVar (pv 3)) dInt)) dONone)))) hNil)
    (hCons (hIf (bCmp (op_eqD hu64) o_eq (dVar (pv 4)) dInt (nomark _)) (hOne (hRet (dBin op_addD o_add (dSl (dVar (pv 1)) dONone (dOSome (dBin op_addD o_add (dVar (pv 3)) dInt))) (dSl (dVar (pv 1)) (dOSome (dVar (pv 3))) dONone)))) hNil)
    (hCons (hIf (bCmp (op_eqD hu64) o_eq (dVar (pv 4)) dInt (nomark _)) (hOne (hRet (dFE (dCtyF call_list_of c_list (by rfl) T.z_list (by decide +kernel) (aCons (dVar (pv 1)) aNil))))) hNil)
    (hCons (hIf (bCmp (op_eqD hu64) o_eq (dVar (pv 4)) dInt (nomark _)) (hOne (hRet (dRevT (dVar (pv 1))))) hNil)
    (hOne (hRet (dBin op_addD o_add (dBin op_addD o_add (dSl (dVar (pv 1)) dONone (dOSome (dVar (pv 3)))) (dTup (aCons (dCall G__law_bent (hr.mono (by omega)) (by rfl) T.m__law_bent T.k__law_bent T.b__law_bent tk (aCons (dVar (pv 0)) (aCons (dIx (dVar (pv 1)) (dVar (pv 3)) (fun _ _ => rfl)) aNil)) (lCons_len (lCons_len lNil_len))) aNil))) (dSl (dVar (pv 1)) (dOSome (dBin op_addD o_add (dVar (pv 3)) dInt)) dONone))))))))))
theorem ok__law_is_plan (T : Txt K mg ad fd) (F : Fun K "_law_is_plan" "_law_is_plan" st__law_is_plan (ad 29) (fd 29)) (G__law_sort : FnOk P w K mg base (L2.CX P w) 1 (ad 2) (fd 2) ["value"] (SpD K cl 1 g__law_sort)) : FnOk P w K mg base (L2.CX P w) 2 (ad 29) (fd 29) ["value"] (SpD K cl 1 g__law_is_plan) := show FnOk P w K mg base (L2.CX P w) 2 (ad 29) (fd 29) ["value"] (SpD K cl 1 (bodyD F__law_is_plan 4)) from okD2 (k := 1) (N := ["value", "low", "high", "pair"]) (ps := ["value"]) F__law_is_plan F sc__law_is_plan rfl rfl (by decide) fun cdv A outer s H E hr => by
  have nd := sc__law_is_plan.nd
  have hu := hu_of hr
  have hu64 := hr.units
  have tk : Takes (cxOf (L2.CX P w) P w K mg base ["value", "low", "high", "pair"] "_law_is_plan" (defScope st__law_is_plan) (ad 29) cdv A outer s H E) (WE0 E) := takes_of rfl rfl rfl rfl
  have ps : PassesOwn (model P w) (cxOf (L2.CX P w) P w K mg base ["value", "low", "high", "pair"] "_law_is_plan" (defScope st__law_is_plan) (ad 29) cdv A outer s H E).A (cxOf (L2.CX P w) P w K mg base ["value", "low", "high", "pair"] "_law_is_plan" (defScope st__law_is_plan) (ad 29) cdv A outer s H E).env (cxOf (L2.CX P w) P w K mg base ["value", "low", "high", "pair"] "_law_is_plan" (defScope st__law_is_plan) (ad 29) cdv A outer s H E).xe := passes_of rfl
  exact (hCons (hIf (bPW (wOr (bNotE (bValE (dIsi Ty.tuple (by rfl) T.z_isinstance (by rfl) T.z_tuple (by decide +kernel) (dVar (pv 0))))) (wOr (bNotE (bChain op_le o_cmpI op_le o_cmpI dInt (dCb call_len c_len (by rfl) T.z_len (by decide +kernel) (aCons (dVar (pv 0)) aNil)) dInt)) (wOr1 (bCmp (op_neD hu64) o_ne (dFE (dLc (pe_lc (own := [("pair", 3)]) rfl nd (jSeq (dVar (pv 0))) (blkOk_by (N := ["value", "low", "high", "pair"]) (sc := defScope st__law_is_plan) (by decide +kernel)) (fun _ _ _ _ _ => (kN (pg_name (i := 3) nd rfl (.inl rfl)))) (fun _ _ _ _ _ => (pts_one (bPW (wOr (bNotE (bValE (dIsi Ty.tuple (by rfl) T.z_isinstance (by rfl) T.z_tuple (by decide +kernel) (dVar (pv 3))))) (wOr1 (bCmp (op_neD hu64) o_ne (dCb call_len c_len (by rfl) T.z_len (by decide +kernel) (aCons (dVar (pv 3)) aNil)) dInt (nomark _))))))) (fun _ _ _ _ _ => (dVar (pv 3)))))) (dFE (dLst aNil)) (nomark _)))))) (hOne (hRet dBl)) hNil)
    (hCons (hFor (ps_for ps rfl (jSeq (dVar (pv 0))) (kT (pg_tup rfl (kC (kN (pg_name (i := 1) nd rfl (.inl rfl))) (kC (kN (pg_name (i := 2) nd rfl (.inl rfl))) kE (pgs_cons (kN (pg_name (i := 2) nd rfl (.inl rfl))) kE)) (pgs_cons (kN (pg_name (i := 1) nd rfl (.inl rfl))) (kC (kN (pg_name (i := 2) nd rfl (.inl rfl))) kE (pgs_cons (kN (pg_name (i := 2) nd rfl (.inl rfl))) kE))))) (gs_len (gs_len gE_len))) (hOne (hIf (bPW (wOr (bCmp (op_neD hu64) o_ne (dCall G__law_sort (hr.mono (by omega)) (by rfl) T.m__law_sort T.k__law_sort T.b__law_sort tk (aCons (dVar (pv 1)) aNil) (lCons_len lNil_len)) dInt (nomark _)) (wOr (bCmp (op_neD hu64) o_ne (dCall G__law_sort (hr.mono (by omega)) (by rfl) T.m__law_sort T.k__law_sort T.b__law_sort tk (aCons (dVar (pv 2)) aNil) (lCons_len lNil_len)) dInt (nomark _)) (wOr1 (bNotE (bChain3 op_le o_cmpI op_lt o_cmpI op_le o_cmpI (dUn un_neg o_neg dInt) (dVar (pv 1)) (dVar (pv 2)) dInt)))))) (hOne (hRet dBl)) hNil))))
    (hOne (hRet (dCmp (op_eqD hu64) o_eq (dIx (dIx (dVar (pv 0)) (dUn un_neg o_neg dInt) (fun _ _ => rfl)) dInt (fun _ _ => rfl)) (dBin op_addD o_add (dIx (dIx (dVar (pv 0)) (dUn un_neg o_neg dInt) (fun _ _ => rfl)) dInt (fun _ _ => rfl)) dInt) (nomark _))))))
theorem ok__law_judged (T : Txt K mg ad fd) (F : Fun K "_law_judged" "_law_judged" st__law_judged (ad 30) (fd 30)) (G__law_roll : FnOk P w K mg base (L2.CX P w) 1 (ad 1) (fd 1) ["cup", "many"] (SpD K cl 2 g__law_roll)) (G__law_bent : FnOk P w K mg base (L2.CX P w) 9 (ad 28) (fd 28) ["cup", "value"] (SpD K cl 2 (g__law_bent 6))) (G_is_end_plan : FnOk P w K mg base (L2.CX P w) 5 (ad 9) (fd 9) ["value"] (SpD K cl 1 g_is_end_plan)) (G__law_is_plan : FnOk P w K mg base (L2.CX P w) 2 (ad 29) (fd 29) ["value"] (SpD K cl 1 g__law_is_plan)) (G__law_like : FnOk P w K mg base (L2.CX P w) 14 (ad 3) (fd 3) ["one", "other"] (SpD K cl 2 (g__law_like 12))) : FnOk P w K mg base (L2.CX P w) 15 (ad 30) (fd 30) ["cup", "plan"] (SpD K cl 2 g__law_judged) := show FnOk P w K mg base (L2.CX P w) 15 (ad 30) (fd 30) ["cup", "plan"] (SpD K cl 2 (bodyD F__law_judged 8)) from okD2 (k := 14) (N := ["cup", "plan", "at", "low", "high", "values", "odd", "value"]) (ps := ["cup", "plan"]) F__law_judged F sc__law_judged rfl rfl (by decide) fun cdv A outer s H E hr => by
  have nd := sc__law_judged.nd
  have hu := hu_of hr
  have hu64 := hr.units
  have tk : Takes (cxOf (L2.CX P w) P w K mg base ["cup", "plan", "at", "low", "high", "values", "odd", "value"] "_law_judged" (defScope st__law_judged) (ad 30) cdv A outer s H E) (WE0 E) := takes_of rfl rfl rfl rfl
  have ps : PassesOwn (model P w) (cxOf (L2.CX P w) P w K mg base ["cup", "plan", "at", "low", "high", "values", "odd", "value"] "_law_judged" (defScope st__law_judged) (ad 30) cdv A outer s H E).A (cxOf (L2.CX P w) P w K mg base ["cup", "plan", "at", "low", "high", "values", "odd", "value"] "_law_judged" (defScope st__law_judged) (ad 30) cdv A outer s H E).env (cxOf (L2.CX P w) P w K mg base ["cup", "plan", "at", "low", "high", "values", "odd", "value"] "_law_judged" (defScope st__law_judged) (ad 30) cdv A outer s H E).xe := passes_of rfl
  exact (hCons (hAsg (ps_set (i := 2) nd rfl (.inl rfl) (dCall G__law_roll (hr.mono (by omega)) (by rfl) T.m__law_roll T.k__law_roll T.b__law_roll tk (aCons (dVar (pv 0)) (aCons (dCb call_len c_len (by rfl) T.z_len (by decide +kernel) (aCons (dVar (pv 1)) aNil)) aNil)) (lCons_len (lCons_len lNil_len)))))
    (hCons (hAsgG (ps_asg (dIx (dVar (pv 1)) (dVar (pv 2)) (fun _ _ => rfl)) (kT (pg_tup rfl (kC (kN (pg_name (i := 3) nd rfl (.inl rfl))) (kC (kN (pg_name (i := 4) nd rfl (.inl rfl))) kE (pgs_cons (kN (pg_name (i := 4) nd rfl (.inl rfl))) kE)) (pgs_cons (kN (pg_name (i := 3) nd rfl (.inl rfl))) (kC (kN (pg_name (i := 4) nd rfl (.inl rfl))) kE (pgs_cons (kN (pg_name (i := 4) nd rfl (.inl rfl))) kE))))) (gs_len (gs_len gE_len)))))
    (hCons (hAsgF (ps_set (i := 5) nd rfl (.inl rfl) (dLst (aCons (dVar (pv 1)) (aCons (dRevT (dVar (pv 1))) (aCons (dFE (dCtyF call_list_of c_list (by rfl) T.z_list (by decide +kernel) (aCons (dVar (pv 1)) aNil))) (aCons (dSl (dVar (pv 1)) dONone (dOSome (dUn un_neg o_neg dInt))) (aCons (dBin op_addD o_add (dVar (pv 1)) (dSl (dVar (pv 1)) (dOSome (dUn un_neg o_neg dInt)) dONone)) (aCons (dBin op_addD o_add (dVar (pv 1)) (dTup (aCons (dTup (aCons dInt (aCons dInt aNil))) aNil))) (aCons dNon (aCons (dTup aNil) (aCons dInt (aCons (dStr) aNil)))))))))))))
    (hCons (hFrz (i := 5) (hAsgF (ps_set (i := 5) nd rfl (.inl rfl) (dBinF op_cat o_addL (dVar (pv 5)) (dFE (dLst (aCons (dTup (aCons (dTup (aCons (dUn un_neg o_neg dInt) (aCons dInt aNil))) aNil)) (aCons (dTup (aCons (dTup (aCons dInt (aCons dInt aNil))) aNil)) (aCons (dTup (aCons (dTup (aCons (dUn un_neg o_neg dInt) (aCons (dUn un_neg o_neg dInt) aNil))) aNil)) (aCons (dBin op_repA o_mulT (dTup (aCons (dTup (aCons (dUn un_neg o_neg dInt) (aCons dInt aNil))) aNil)) dInt) aNil))))))))))
    (hCons (hFor (ps_for ps rfl (jSeq (dTup (aCons (dTup (aCons (dVar (pv 4)) (aCons (dVar (pv 3)) aNil))) (aCons (dTup (aCons (dVar (pv 3)) (aCons (dVar (pv 3)) aNil))) (aCons (dFE (dLst (aCons (dVar (pv 3)) (aCons (dVar (pv 4)) aNil)))) (aCons (dTup (aCons (dVar (pv 3)) aNil)) (aCons (dTup (aCons (dVar (pv 3)) (aCons (dVar (pv 4)) (aCons (dVar (pv 4)) aNil)))) (aCons dNon (aCons (dTup (aCons (dVar (pv 3)) (aCons dBl aNil))) (aCons (dTup (aCons (dVar (pv 3)) (aCons (dStr) aNil))) (aCons (dTup (aCons (dUn un_neg o_neg dInt) (aCons (dVar (pv 4)) aNil))) (aCons (dTup (aCons (dVar (pv 3)) (aCons dInt aNil))) (aCons (dTup (aCons (dVar (pv 3)) (aCons (dBin op_addD o_add (dVar (pv 4)) dInt) aNil))) aNil))))))))))))) (kN (pg_name (i := 6) nd rfl (.inl rfl))) (hOne (hApp (ps_expr (pe_bm PySem.F.plainAttrs_list PySem.F.slot_list_append PySem.F.type_list_append mt_append (pv 5) (pa_cons (dBin op_addD o_add (dBin op_addD o_add (dSl (dVar (pv 1)) dONone (dOSome (dVar (pv 2)))) (dTup (aCons (dVar (pv 6)) aNil))) (dSl (dVar (pv 1)) (dOSome (dBin op_addD o_add (dVar (pv 2)) dInt)) dONone)) pa_nil)))))))
    (hCons (hFrz (i := 5) (hAsgF (ps_set (i := 5) nd rfl (.inl rfl) (dBinF op_cat o_addL (dVar (pv 5)) (dFE (dLst (aCons (dCall G__law_bent (hr.mono (by omega)) (by rfl) T.m__law_bent T.k__law_bent T.b__law_bent tk (aCons (dVar (pv 0)) (aCons (dVar (pv 1)) aNil)) (lCons_len (lCons_len lNil_len))) (aCons (dCall G__law_bent (hr.mono (by omega)) (by rfl) T.m__law_bent T.k__law_bent T.b__law_bent tk (aCons (dVar (pv 0)) (aCons (dVar (pv 1)) aNil)) (lCons_len (lCons_len lNil_len))) aNil))))))))
    (hOne (hFrz (i := 5) (hRet (dCmp (op_eqD hu64) o_eq (dFE (dLc (pe_lc (own := [("value", 7)]) rfl nd (jSeq (dVar (pv 5))) (blkOk_by (N := ["cup", "plan", "at", "low", "high", "values", "odd", "value"]) (sc := defScope st__law_judged) (by decide +kernel)) (fun _ _ _ _ _ => (kN (pg_name (i := 7) nd rfl (.inl rfl)))) (fun _ _ _ _ _ => (pts_one (bNotE (bValE (dCall G__law_like (hr.mono (by omega)) (by rfl) T.m__law_like T.k__law_like T.b__law_like takes0 (aCons (dCall G_is_end_plan (hr.mono (by omega)) (by rfl) T.m_is_end_plan T.k_is_end_plan T.b_is_end_plan takes0 (aCons (dVar (pv 7)) aNil) (lCons_len lNil_len)) (aCons (dCall G__law_is_plan (hr.mono (by omega)) (by rfl) T.m__law_is_plan T.k__law_is_plan T.b__law_is_plan takes0 (aCons (dVar (pv 7)) aNil) (lCons_len lNil_len)) aNil)) (lCons_len (lCons_len lNil_len))))))) (fun _ _ _ _ _ => (dVar (pv 7)))))) (dFE (dLst aNil)) (nomark _)))))))))))
theorem ok__law_ways (T : Txt K mg ad fd) (F : Fun K "_law_ways" "_law_ways" st__law_ways (ad 31) (fd 31)) : FnOk P w K mg base (L2.CX P w) 1 (ad 31) (fd 31) ["many", "some"] (SpD K cl 2 g__law_ways) := show FnOk P w K mg base (L2.CX P w) 1 (ad 31) (fd 31) ["many", "some"] (SpD K cl 2 (bodyD F__law_ways 4)) from okD2 (k := 0) (N := ["many", "some", "found", "at"]) (ps := ["many", "some"]) F__law_ways F sc__law_ways rfl rfl (by decide) fun cdv A outer s H E hr => by
  have nd := sc__law_ways.nd
  have hu := hu_of hr
  have hu64 := hr.units
  have tk : Takes (cxOf (L2.CX P w) P w K mg base ["many", "some", "found", "at"] "_law_ways" (defScope st__law_ways) (ad 31) cdv A outer s H E) (WE0 E) := takes_of rfl rfl rfl rfl
  have ps : PassesOwn (model P w) (cxOf (L2.CX P w) P w K mg base ["many", "some", "found", "at"] "_law_ways" (defScope st__law_ways) (ad 31) cdv A outer s H E).A (cxOf (L2.CX P w) P w K mg base ["many", "some", "found", "at"] "_law_ways" (defScope st__law_ways) (ad 31) cdv A outer s H E).env (cxOf (L2.CX P w) P w K mg base ["many", "some", "found", "at"] "_law_ways" (defScope st__law_ways) (ad 31) cdv A outer s H E).xe := passes_of rfl
  exact (hCons (hAsg (ps_set (i := 2) nd rfl (.inl rfl) dInt))
    (hCons (hFor (ps_for ps rfl (jRg1 (by rfl) T.z_range (aCons (dVar (pv 1)) aNil)) (kN (pg_name (i := 3) nd rfl (.inl rfl))) (hOne (hAsg (ps_set (i := 2) nd rfl (.inl rfl) (dCty call_int1 c_int (by rfl) T.z_int (by decide +kernel) (aCons (dBin op_divD o_div (dBin op_mulD o_mul (dVar (pv 2)) (dBin op_sub o_sub (dVar (pv 0)) (dVar (pv 3)))) (dBin op_addD o_add (dVar (pv 3)) dInt)) aNil)))))))
    (hOne (hRet (dIf (bCmp op_le o_cmpI (dVar (pv 1)) (dVar (pv 0)) (nomark _)) (dVar (pv 2)) dInt)))))
theorem ok_law (T : Txt K mg ad fd) (F : Fun K "law" "law" st_law (ad 32) (fd 32)) (G__law_cup : FnOk P w K mg base (L2.CX P w) 1 (ad 0) (fd 0) ["script"] (SpF K cl 1 g__law_cup)) (G_is_end_plan : FnOk P w K mg base (L2.CX P w) 5 (ad 9) (fd 9) ["value"] (SpD K cl 1 g_is_end_plan)) (G_end_of_row : FnOk P w K mg base (L2.CX P w) 6 (ad 13) (fd 13) ["plan", "row"] (SpD K cl 2 g_end_of_row)) (G__law_like : FnOk P w K mg base (L2.CX P w) 14 (ad 3) (fd 3) ["one", "other"] (SpD K cl 2 (g__law_like 12))) (G_end_points : FnOk P w K mg base (L2.CX P w) 6 (ad 16) (fd 16) ["plan"] (SpD K cl 1 g_end_points)) (G_open_counts : FnOk P w K mg base (L2.CX P w) 6 (ad 18) (fd 18) ["plan", "many"] (SpD K cl 2 g_open_counts)) (G__law_plan : FnOk P w K mg base (L2.CX P w) 2 (ad 19) (fd 19) ["cup", "most"] (SpD K cl 2 g__law_plan)) (G__law_right : FnOk P w K mg base (L2.CX P w) 15 (ad 27) (fd 27) ["cup", "plan"] (SpD K cl 2 g__law_right)) (G__law_judged : FnOk P w K mg base (L2.CX P w) 15 (ad 30) (fd 30) ["cup", "plan"] (SpD K cl 2 g__law_judged)) (G__law_small_right : FnOk P w K mg base (L2.CX P w) 15 (ad 22) (fd 22) ["plan"] (SpD K cl 1 g__law_small_right)) (G__law_roll : FnOk P w K mg base (L2.CX P w) 1 (ad 1) (fd 1) ["cup", "many"] (SpD K cl 2 g__law_roll)) (G__law_ways : FnOk P w K mg base (L2.CX P w) 1 (ad 31) (fd 31) ["many", "some"] (SpD K cl 2 g__law_ways)) : FnOk P w K mg base (L2.CX P w) 16 (ad 32) (fd 32) ["script"] (SpD K cl 1 g_law) := show FnOk P w K mg base (L2.CX P w) 16 (ad 32) (fd 32) ["script"] (SpD K cl 1 (bodyD F_law 10)) from okD2 (k := 15) (N := ["script", "cup", "some", "told", "most", "plan", "turn", "many", "need", "ups"]) (ps := ["script"]) F_law F sc_law rfl rfl (by decide) fun cdv A outer s H E hr => by
  have nd := sc_law.nd
  have hu := hu_of hr
  have hu64 := hr.units
  have tk : Takes (cxOf (L2.CX P w) P w K mg base ["script", "cup", "some", "told", "most", "plan", "turn", "many", "need", "ups"] "law" (defScope st_law) (ad 32) cdv A outer s H E) (WE0 E) := takes_of rfl rfl rfl rfl
  have ps : PassesOwn (model P w) (cxOf (L2.CX P w) P w K mg base ["script", "cup", "some", "told", "most", "plan", "turn", "many", "need", "ups"] "law" (defScope st_law) (ad 32) cdv A outer s H E).A (cxOf (L2.CX P w) P w K mg base ["script", "cup", "some", "told", "most", "plan", "turn", "many", "need", "ups"] "law" (defScope st_law) (ad 32) cdv A outer s H E).env (cxOf (L2.CX P w) P w K mg base ["script", "cup", "some", "told", "most", "plan", "turn", "many", "need", "ups"] "law" (defScope st_law) (ad 32) cdv A outer s H E).xe := passes_of rfl
  exact (hCons (hAsgF (ps_set (i := 1) nd rfl (.inl rfl) (dCallF G__law_cup (hr.mono (by omega)) (by rfl) T.m__law_cup T.k__law_cup T.b__law_cup tk (aCons (dVar (pv 0)) aNil) (lCons_len lNil_len)))) (hProm (i := 1) (hCons (hAsg (ps_set (i := 2) nd rfl (.inl rfl) (dTup (aCons (dTup (aCons (dUn un_neg o_neg dInt) (aCons dInt aNil))) (aCons (dTup (aCons dInt (aCons dInt aNil))) (aCons (dTup (aCons dInt (aCons dInt aNil))) aNil))))))
    (hCons (hAsg (ps_set (i := 3) nd rfl (.inl rfl) (dFE (dLst (aCons (dCall G_is_end_plan (hr.mono (by omega)) (by rfl) T.m_is_end_plan T.k_is_end_plan T.b_is_end_plan tk (aCons (dVar (pv 2)) aNil) (lCons_len lNil_len)) (aCons (dCall G_is_end_plan (hr.mono (by omega)) (by rfl) T.m_is_end_plan T.k_is_end_plan T.b_is_end_plan tk (aCons (dTup (aCons (dTup (aCons (dUn un_neg o_neg dInt) (aCons dInt aNil))) aNil)) aNil) (lCons_len lNil_len)) (aCons (dCall G_end_of_row (hr.mono (by omega)) (by rfl) T.m_end_of_row T.k_end_of_row T.b_end_of_row tk (aCons (dVar (pv 2)) (aCons (dStr) aNil)) (lCons_len (lCons_len lNil_len))) (aCons (dCall G_end_of_row (hr.mono (by omega)) (by rfl) T.m_end_of_row T.k_end_of_row T.b_end_of_row tk (aCons (dVar (pv 2)) (aCons (dStr) aNil)) (lCons_len (lCons_len lNil_len))) (aCons (dCall G_end_of_row (hr.mono (by omega)) (by rfl) T.m_end_of_row T.k_end_of_row T.b_end_of_row tk (aCons (dVar (pv 2)) (aCons (dStr) aNil)) (lCons_len (lCons_len lNil_len))) aNil)))))))))
    (hCons (hIf (bNotE (bValE (dCall G__law_like (hr.mono (by omega)) (by rfl) T.m__law_like T.k__law_like T.b__law_like tk (aCons (dVar (pv 3)) (aCons (dFE (dLst (aCons dBl (aCons dBl (aCons dNon (aCons (dTup (aCons dInt (aCons (dStr) aNil))) (aCons (dTup (aCons dInt (aCons (dStr) aNil))) aNil))))))) aNil)) (lCons_len (lCons_len lNil_len))))) (hOne (hRet dBl)) hNil)
    (hCons (hAsg (ps_set (i := 3) nd rfl (.inl rfl) (dFE (dLst (aCons (dCall G_end_points (hr.mono (by omega)) (by rfl) T.m_end_points T.k_end_points T.b_end_points tk (aCons (dVar (pv 2)) aNil) (lCons_len lNil_len)) (aCons (dCall G_open_counts (hr.mono (by omega)) (by rfl) T.m_open_counts T.k_open_counts T.b_open_counts tk (aCons (dVar (pv 2)) (aCons dInt aNil)) (lCons_len (lCons_len lNil_len))) (aCons (dCall G_open_counts (hr.mono (by omega)) (by rfl) T.m_open_counts T.k_open_counts T.b_open_counts tk (aCons (dVar (pv 2)) (aCons dInt aNil)) (lCons_len (lCons_len lNil_len))) (aCons (dCall G_open_counts (hr.mono (by omega)) (by rfl) T.m_open_counts T.k_open_counts T.b_open_counts tk (aCons (dVar (pv 2)) (aCons dInt aNil)) (lCons_len (lCons_len lNil_len))) (aCons (dCall G_end_points (hr.mono (by omega)) (by rfl) T.m_end_points T.k_end_points T.b_end_points tk (aCons (dTup (aCons (dTup (aCons (dUn un_neg o_neg dInt) (aCons dInt aNil))) aNil)) aNil) (lCons_len lNil_len)) (aCons (dCall G_end_of_row (hr.mono (by omega)) (by rfl) T.m_end_of_row T.k_end_of_row T.b_end_of_row tk (aCons (dTup (aCons (dTup (aCons dInt (aCons dInt aNil))) aNil)) (aCons (dStr) aNil)) (lCons_len (lCons_len lNil_len))) aNil))))))))))
    (hCons (hIf (bNotE (bValE (dCall G__law_like (hr.mono (by omega)) (by rfl) T.m__law_like T.k__law_like T.b__law_like tk (aCons (dVar (pv 3)) (aCons (dFE (dLst (aCons (dTup (aCons (dTup (aCons dInt (aCons dInt (aCons dInt aNil)))) (aCons (dTup (aCons dInt (aCons dInt (aCons dInt aNil)))) (aCons (dTup (aCons dInt (aCons dInt (aCons dInt aNil)))) (aCons (dTup (aCons dInt (aCons dInt (aCons dInt aNil)))) aNil))))) (aCons (dTup (aCons dInt aNil)) (aCons (dTup (aCons dInt (aCons dInt (aCons dInt aNil)))) (aCons (dTup (aCons dInt (aCons dInt (aCons dInt (aCons dInt aNil))))) (aCons (dTup (aCons (dTup (aCons dInt (aCons dInt (aCons dInt aNil)))) (aCons (dTup (aCons dInt (aCons dInt (aCons dInt aNil)))) aNil))) (aCons (dTup (aCons dInt (aCons (dStr) aNil))) aNil)))))))) aNil)) (lCons_len (lCons_len lNil_len))))) (hOne (hRet dBl)) hNil)
    (hCons (hFor (ps_for ps rfl (jSeq (dTup (aCons dInt (aCons dInt (aCons dInt (aCons dInt aNil)))))) (kN (pg_name (i := 4) nd rfl (.inl rfl))) (hCons (hAsg (ps_set (i := 5) nd rfl (.inl rfl) (dCall G__law_plan (hr.mono (by omega)) (by rfl) T.m__law_plan T.k__law_plan T.b__law_plan tk (aCons (dVar (pv 1)) (aCons (dVar (pv 4)) aNil)) (lCons_len (lCons_len lNil_len)))))
    (hOne (hIf (bPW (wOr (bNotE (bValE (dCall G__law_right (hr.mono (by omega)) (by rfl) T.m__law_right T.k__law_right T.b__law_right tk (aCons (dVar (pv 1)) (aCons (dVar (pv 5)) aNil)) (lCons_len (lCons_len lNil_len))))) (wOr1 (bNotE (bValE (dCall G__law_judged (hr.mono (by omega)) (by rfl) T.m__law_judged T.k__law_judged T.b__law_judged tk (aCons (dVar (pv 1)) (aCons (dVar (pv 5)) aNil)) (lCons_len (lCons_len lNil_len)))))))) (hOne (hRet dBl)) hNil)))))
    (hCons (hFor (ps_for ps rfl (jRg1 (by rfl) T.z_range (aCons dInt aNil)) (kN (pg_name (i := 6) nd rfl (.inl rfl))) (hOne (hIf (bNotE (bValE (dCall G__law_small_right (hr.mono (by omega)) (by rfl) T.m__law_small_right T.k__law_small_right T.b__law_small_right tk (aCons (dCall G__law_plan (hr.mono (by omega)) (by rfl) T.m__law_plan T.k__law_plan T.b__law_plan tk (aCons (dVar (pv 1)) (aCons dInt aNil)) (lCons_len (lCons_len lNil_len))) aNil) (lCons_len lNil_len)))) (hOne (hRet dBl)) hNil))))
    (hCons (hAsg (ps_set (i := 7) nd rfl (.inr rfl) (dBin op_addD o_add dInt (dCall G__law_roll (hr.mono (by omega)) (by rfl) T.m__law_roll T.k__law_roll T.b__law_roll tk (aCons (dVar (pv 1)) (aCons dInt aNil)) (lCons_len (lCons_len lNil_len))))))
    (hCons (hAsg (ps_set (i := 8) nd rfl (.inl rfl) (dCall G__law_roll (hr.mono (by omega)) (by rfl) T.m__law_roll T.k__law_roll T.b__law_roll tk (aCons (dVar (pv 1)) (aCons (dBin op_addD o_add (dVar (pv 7)) dInt) aNil)) (lCons_len (lCons_len lNil_len)))))
    (hCons (hAsg (ps_set (i := 5) nd rfl (.inl rfl) (dBin op_addD o_add (dBin op_repA o_mulT (dTup (aCons (dTup (aCons (dUn un_neg o_neg dInt) (aCons dInt aNil))) aNil)) (dBin op_sub o_sub (dVar (pv 7)) dInt)) (dTup (aCons (dTup (aCons (dBin op_sub o_sub (dVar (pv 8)) dInt) (aCons (dVar (pv 8)) aNil))) aNil)))))
    (hOne (hRet (dCall G__law_like (hr.mono (by omega)) (by rfl) T.m__law_like T.k__law_like T.b__law_like tk (aCons (dCall G_end_points (hr.mono (by omega)) (by rfl) T.m_end_points T.k_end_points T.b_end_points tk (aCons (dVar (pv 5)) aNil) (lCons_len lNil_len)) (aCons (dCty call_tuple_of c_tuple (by rfl) T.z_tuple (by decide +kernel) (aCons (dFE (dLc (pe_lc (own := [("ups", 9)]) rfl nd (jRg1 (by rfl) T.z_range (aCons (dBin op_addD o_add (dVar (pv 7)) dInt) aNil)) (blkOk_by (N := ["script", "cup", "some", "told", "most", "plan", "turn", "many", "need", "ups"]) (sc := defScope st_law) (by decide +kernel)) (fun _ _ _ _ _ => (kN (pg_name (i := 9) nd rfl (.inl rfl)))) (fun _ _ _ _ _ => bNilT) (fun _ _ _ _ _ => (dTup (aCons (dVar (pv 7)) (aCons (dVar (pv 9)) (aCons (dCall G__law_ways (hr.mono (by omega)) (by rfl) T.m__law_ways T.k__law_ways T.b__law_ways takes0 (aCons (dVar (pv 7)) (aCons (dVar (pv 9)) aNil)) (lCons_len (lCons_len lNil_len))) aNil)))))))) aNil)) aNil)) (lCons_len (lCons_len lNil_len)))))))))))))))))
end
end K75
set_option Elab.async false
set_option linter.all false
set_option maxRecDepth 100000
set_option maxHeartbeats 4000000
namespace K75
open PySem PySem.Spec PyProof.Rows L2 DC
def spLaw (K : PySem.W.Frag) : Sp := fun vs H Q _ => ∃ (a : Addr) (ns : List Int), vs = [.ref a] ∧ SqL K H a (ns.map V.int) ∧ ns.length ≤ 63 ∧ ∀ H', Q (.bl true) H'
theorem law_sp {K : PySem.W.Frag} {cl : Nat → Addr} (vs : List V) (H : Hp) (Q : VK) (E : XK) (h : spLaw K vs H Q E) : SpD K cl 1 g_law vs H Q E := by
  obtain ⟨a, ns, rfl, hS, hl, q⟩ := h
  have nv : vw ⟨fun _ => False, [], H⟩ [] H = H := by
    funext b
    unfold vw
    rw [if_neg]
    rintro (z | z | z)
    · exact z
    · cases z
    · cases z
  refine ⟨fun _ => False, [], [], [.scr ns], ⟨rfl, rfl, fun i o s x h => (by simp at h), fun i j a h => (by simp at h), fun a h => (by cases h), fun a h => (by cases h), List.nodup_nil, rfl, fun n a ns h => (by simp at h), fun b o h _ => h, fun b h => h.elim⟩, .cons (.scr (by rw [nv]; exact hS)) .nil, rfl, ?_⟩
  rw [law_true ns hl]
  intro v H' r p
  rw [p.inv_bl]
  exact q H'
theorem all_mk {l : PySem.W.OpenLaw} {w : World} {K : PySem.W.Frag} {h : Heap} {mg : Str → Option Value} {fa : Addr} {f0 f1 f2 f3 f4 f5 f6 f7 f8 f9 f10 f11 f12 f13 f14 f15 f16 f17 f18 f19 f20 f21 f22 f23 f24 f25 f26 f27 f28 f29 f30 f31 f32 : Addr} (X : K.In h) (G : h.Ns mainGlobals mg) (hfa : mg "law" = some (.ref fa))
    {od0 an0 od1 an1 od2 an2 od3 an3 od4 an4 od5 an5 od6 an6 od7 an7 od8 an8 od9 an9 od10 an10 od11 an11 od12 an12 od13 an13 od14 an14 od15 an15 od16 an16 od17 an17 od18 an18 od19 an19 od20 an20 od21 an21 od22 an22 od23 an23 od24 an24 od25 an25 od26 an26 od27 an27 od28 an28 od29 an29 od30 an30 od31 an31 od32 an32 : Option Addr} {sl0 sl1 sl2 sl3 sl4 sl5 sl6 sl7 sl8 sl9 sl10 sl11 sl12 sl13 sl14 sl15 sl16 sl17 sl18 sl19 sl20 sl21 sl22 sl23 sl24 sl25 sl26 sl27 sl28 sl29 sl30 sl31 sl32 : Array (Option Value)} {oc0 kV0 dc0 pm0 cd0 ct0 oc1 kV1 dc1 pm1 cd1 ct1 oc2 kV2 dc2 pm2 cd2 ct2 oc3 kV3 dc3 pm3 cd3 ct3 oc4 kV4 dc4 pm4 cd4 ct4 oc5 kV5 dc5 pm5 cd5 ct5 oc6 kV6 dc6 pm6 cd6 ct6 oc7 kV7 dc7 pm7 cd7 ct7 oc8 kV8 dc8 pm8 cd8 ct8 oc9 kV9 dc9 pm9 cd9 ct9 oc10 kV10 dc10 pm10 cd10 ct10 oc11 kV11 dc11 pm11 cd11 ct11 oc12 kV12 dc12 pm12 cd12 ct12 oc13 kV13 dc13 pm13 cd13 ct13 oc14 kV14 dc14 pm14 cd14 ct14 oc15 kV15 dc15 pm15 cd15 ct15 oc16 kV16 dc16 pm16 cd16 ct16 oc17 kV17 dc17 pm17 cd17 ct17 oc18 kV18 dc18 pm18 cd18 ct18 oc19 kV19 dc19 pm19 cd19 ct19 oc20 kV20 dc20 pm20 cd20 ct20 oc21 kV21 dc21 pm21 cd21 ct21 oc22 kV22 dc22 pm22 cd22 ct22 oc23 kV23 dc23 pm23 cd23 ct23 oc24 kV24 dc24 pm24 cd24 ct24 oc25 kV25 dc25 pm25 cd25 ct25 oc26 kV26 dc26 pm26 cd26 ct26 oc27 kV27 dc27 pm27 cd27 ct27 oc28 kV28 dc28 pm28 cd28 ct28 oc29 kV29 dc29 pm29 cd29 ct29 oc30 kV30 dc30 pm30 cd30 ct30 oc31 kV31 dc31 pm31 cd31 ct31 oc32 kV32 dc32 pm32 cd32 ct32 : Value} {t0 t1 t2 t3 : Tok}
    (a0 : PySem.W.nsIn K mainGlobals "_law_cup" = some (some (.ref f0))) (l0 : K.lookup f0 = some ⟨oc0, od0, .func (PySem.W.fnOf "_law_cup" "_law_cup" (defArgs st__law_cup) (defBody st__law_cup) (defScope st__law_cup) .none kV0 dc0 pm0 an0 cd0 ct0), sl0⟩) (c0 : PySem.W.codeIn K cd0 "_law_cup" = true) (k0 : PySem.W.keepIn K (.ref f0) = true)
    (a1 : PySem.W.nsIn K mainGlobals "_law_roll" = some (some (.ref f1))) (l1 : K.lookup f1 = some ⟨oc1, od1, .func (PySem.W.fnOf "_law_roll" "_law_roll" (defArgs st__law_roll) (defBody st__law_roll) (defScope st__law_roll) .none kV1 dc1 pm1 an1 cd1 ct1), sl1⟩) (c1 : PySem.W.codeIn K cd1 "_law_roll" = true) (k1 : PySem.W.keepIn K (.ref f1) = true)
    (a2 : PySem.W.nsIn K mainGlobals "_law_sort" = some (some (.ref f2))) (l2 : K.lookup f2 = some ⟨oc2, od2, .func (PySem.W.fnOf "_law_sort" "_law_sort" (defArgs st__law_sort) (defBody st__law_sort) (defScope st__law_sort) .none kV2 dc2 pm2 an2 cd2 ct2), sl2⟩) (c2 : PySem.W.codeIn K cd2 "_law_sort" = true) (k2 : PySem.W.keepIn K (.ref f2) = true)
    (a3 : PySem.W.nsIn K mainGlobals "_law_like" = some (some (.ref f3))) (l3 : K.lookup f3 = some ⟨oc3, od3, .func (PySem.W.fnOf "_law_like" "_law_like" (defArgs st__law_like) (defBody st__law_like) (defScope st__law_like) .none kV3 dc3 pm3 an3 cd3 ct3), sl3⟩) (c3 : PySem.W.codeIn K cd3 "_law_like" = true) (k3 : PySem.W.keepIn K (.ref f3) = true)
    (a4 : PySem.W.nsIn K mainGlobals "is_tuple_of" = some (some (.ref f4))) (l4 : K.lookup f4 = some ⟨oc4, od4, .func (PySem.W.fnOf "is_tuple_of" "is_tuple_of" (defArgs st_is_tuple_of) (defBody st_is_tuple_of) (defScope st_is_tuple_of) .none kV4 dc4 pm4 an4 cd4 ct4), sl4⟩) (c4 : PySem.W.codeIn K cd4 "is_tuple_of" = true) (k4 : PySem.W.keepIn K (.ref f4) = true)
    (a5 : PySem.W.nsIn K mainGlobals "is_integer" = some (some (.ref f5))) (l5 : K.lookup f5 = some ⟨oc5, od5, .func (PySem.W.fnOf "is_integer" "is_integer" (defArgs st_is_integer) (defBody st_is_integer) (defScope st_is_integer) .none kV5 dc5 pm5 an5 cd5 ct5), sl5⟩) (c5 : PySem.W.codeIn K cd5 "is_integer" = true) (k5 : PySem.W.keepIn K (.ref f5) = true)
    (a6 : PySem.W.nsIn K mainGlobals "is_whole" = some (some (.ref f6))) (l6 : K.lookup f6 = some ⟨oc6, od6, .func (PySem.W.fnOf "is_whole" "is_whole" (defArgs st_is_whole) (defBody st_is_whole) (defScope st_is_whole) .none kV6 dc6 pm6 an6 cd6 ct6), sl6⟩) (c6 : PySem.W.codeIn K cd6 "is_whole" = true) (k6 : PySem.W.keepIn K (.ref f6) = true)
    (a7 : PySem.W.nsIn K mainGlobals "fits_bounds" = some (some (.ref f7))) (l7 : K.lookup f7 = some ⟨oc7, od7, .func (PySem.W.fnOf "fits_bounds" "fits_bounds" (defArgs st_fits_bounds) (defBody st_fits_bounds) (defScope st_fits_bounds) .none kV7 dc7 pm7 an7 cd7 ct7), sl7⟩) (c7 : PySem.W.codeIn K cd7 "fits_bounds" = true) (k7 : PySem.W.keepIn K (.ref f7) = true)
    (a8 : PySem.W.nsIn K mainGlobals "fits_end_plan" = some (some (.ref f8))) (l8 : K.lookup f8 = some ⟨oc8, od8, .func (PySem.W.fnOf "fits_end_plan" "fits_end_plan" (defArgs st_fits_end_plan) (defBody st_fits_end_plan) (defScope st_fits_end_plan) .none kV8 dc8 pm8 an8 cd8 ct8), sl8⟩) (c8 : PySem.W.codeIn K cd8 "fits_end_plan" = true) (k8 : PySem.W.keepIn K (.ref f8) = true)
    (a9 : PySem.W.nsIn K mainGlobals "is_end_plan" = some (some (.ref f9))) (l9 : K.lookup f9 = some ⟨oc9, od9, .func (PySem.W.fnOf "is_end_plan" "is_end_plan" (defArgs st_is_end_plan) (defBody st_is_end_plan) (defScope st_is_end_plan) .none kV9 dc9 pm9 an9 cd9 ct9), sl9⟩) (c9 : PySem.W.codeIn K cd9 "is_end_plan" = true) (k9 : PySem.W.keepIn K (.ref f9) = true)
    (a10 : PySem.W.nsIn K mainGlobals "need_end_plan" = some (some (.ref f10))) (l10 : K.lookup f10 = some ⟨oc10, od10, .func (PySem.W.fnOf "need_end_plan" "need_end_plan" (defArgs st_need_end_plan) (defBody st_need_end_plan) (defScope st_need_end_plan) .none kV10 dc10 pm10 an10 cd10 ct10), sl10⟩) (c10 : PySem.W.codeIn K cd10 "need_end_plan" = true) (k10 : PySem.W.keepIn K (.ref f10) = true)
    (a11 : PySem.W.nsIn K mainGlobals "end_of" = some (some (.ref f11))) (l11 : K.lookup f11 = some ⟨oc11, od11, .func (PySem.W.fnOf "end_of" "end_of" (defArgs st_end_of) (defBody st_end_of) (defScope st_end_of) .none kV11 dc11 pm11 an11 cd11 ct11), sl11⟩) (c11 : PySem.W.codeIn K cd11 "end_of" = true) (k11 : PySem.W.keepIn K (.ref f11) = true)
    (a12 : PySem.W.nsIn K mainGlobals "is_word" = some (some (.ref f12))) (l12 : K.lookup f12 = some ⟨oc12, od12, .func (PySem.W.fnOf "is_word" "is_word" (defArgs st_is_word) (defBody st_is_word) (defScope st_is_word) .none kV12 dc12 pm12 an12 cd12 ct12), sl12⟩) (c12 : PySem.W.codeIn K cd12 "is_word" = true) (k12 : PySem.W.keepIn K (.ref f12) = true)
    (a13 : PySem.W.nsIn K mainGlobals "end_of_row" = some (some (.ref f13))) (l13 : K.lookup f13 = some ⟨oc13, od13, .func (PySem.W.fnOf "end_of_row" "end_of_row" (defArgs st_end_of_row) (defBody st_end_of_row) (defScope st_end_of_row) .none kV13 dc13 pm13 an13 cd13 ct13), sl13⟩) (c13 : PySem.W.codeIn K cd13 "end_of_row" = true) (k13 : PySem.W.keepIn K (.ref f13) = true)
    (a14 : PySem.W.nsIn K mainGlobals "layers_of_plan" = some (some (.ref f14))) (l14 : K.lookup f14 = some ⟨oc14, od14, .func (PySem.W.fnOf "layers_of_plan" "layers_of_plan" (defArgs st_layers_of_plan) (defBody st_layers_of_plan) (defScope st_layers_of_plan) .none kV14 dc14 pm14 an14 cd14 ct14), sl14⟩) (c14 : PySem.W.codeIn K cd14 "layers_of_plan" = true) (k14 : PySem.W.keepIn K (.ref f14) = true)
    (a15 : PySem.W.nsIn K mainGlobals "points_in_plan" = some (some (.ref f15))) (l15 : K.lookup f15 = some ⟨oc15, od15, .func (PySem.W.fnOf "points_in_plan" "points_in_plan" (defArgs st_points_in_plan) (defBody st_points_in_plan) (defScope st_points_in_plan) .none kV15 dc15 pm15 an15 cd15 ct15), sl15⟩) (c15 : PySem.W.codeIn K cd15 "points_in_plan" = true) (k15 : PySem.W.keepIn K (.ref f15) = true)
    (a16 : PySem.W.nsIn K mainGlobals "end_points" = some (some (.ref f16))) (l16 : K.lookup f16 = some ⟨oc16, od16, .func (PySem.W.fnOf "end_points" "end_points" (defArgs st_end_points) (defBody st_end_points) (defScope st_end_points) .none kV16 dc16 pm16 an16 cd16 ct16), sl16⟩) (c16 : PySem.W.codeIn K cd16 "end_points" = true) (k16 : PySem.W.keepIn K (.ref f16) = true)
    (a17 : PySem.W.nsIn K mainGlobals "need_whole" = some (some (.ref f17))) (l17 : K.lookup f17 = some ⟨oc17, od17, .func (PySem.W.fnOf "need_whole" "need_whole" (defArgs st_need_whole) (defBody st_need_whole) (defScope st_need_whole) .none kV17 dc17 pm17 an17 cd17 ct17), sl17⟩) (c17 : PySem.W.codeIn K cd17 "need_whole" = true) (k17 : PySem.W.keepIn K (.ref f17) = true)
    (a18 : PySem.W.nsIn K mainGlobals "open_counts" = some (some (.ref f18))) (l18 : K.lookup f18 = some ⟨oc18, od18, .func (PySem.W.fnOf "open_counts" "open_counts" (defArgs st_open_counts) (defBody st_open_counts) (defScope st_open_counts) .none kV18 dc18 pm18 an18 cd18 ct18), sl18⟩) (c18 : PySem.W.codeIn K cd18 "open_counts" = true) (k18 : PySem.W.keepIn K (.ref f18) = true)
    (a19 : PySem.W.nsIn K mainGlobals "_law_plan" = some (some (.ref f19))) (l19 : K.lookup f19 = some ⟨oc19, od19, .func (PySem.W.fnOf "_law_plan" "_law_plan" (defArgs st__law_plan) (defBody st__law_plan) (defScope st__law_plan) .none kV19 dc19 pm19 an19 cd19 ct19), sl19⟩) (c19 : PySem.W.codeIn K cd19 "_law_plan" = true) (k19 : PySem.W.keepIn K (.ref f19) = true)
    (a20 : PySem.W.nsIn K mainGlobals "_law_rows" = some (some (.ref f20))) (l20 : K.lookup f20 = some ⟨oc20, od20, .func (PySem.W.fnOf "_law_rows" "_law_rows" (defArgs st__law_rows) (defBody st__law_rows) (defScope st__law_rows) .none kV20 dc20 pm20 an20 cd20 ct20), sl20⟩) (c20 : PySem.W.codeIn K cd20 "_law_rows" = true) (k20 : PySem.W.keepIn K (.ref f20) = true)
    (a21 : PySem.W.nsIn K mainGlobals "_law_end" = some (some (.ref f21))) (l21 : K.lookup f21 = some ⟨oc21, od21, .func (PySem.W.fnOf "_law_end" "_law_end" (defArgs st__law_end) (defBody st__law_end) (defScope st__law_end) .none kV21 dc21 pm21 an21 cd21 ct21), sl21⟩) (c21 : PySem.W.codeIn K cd21 "_law_end" = true) (k21 : PySem.W.keepIn K (.ref f21) = true)
    (a22 : PySem.W.nsIn K mainGlobals "_law_small_right" = some (some (.ref f22))) (l22 : K.lookup f22 = some ⟨oc22, od22, .func (PySem.W.fnOf "_law_small_right" "_law_small_right" (defArgs st__law_small_right) (defBody st__law_small_right) (defScope st__law_small_right) .none kV22 dc22 pm22 an22 cd22 ct22), sl22⟩) (c22 : PySem.W.codeIn K cd22 "_law_small_right" = true) (k22 : PySem.W.keepIn K (.ref f22) = true)
    (a23 : PySem.W.nsIn K mainGlobals "_law_points" = some (some (.ref f23))) (l23 : K.lookup f23 = some ⟨oc23, od23, .func (PySem.W.fnOf "_law_points" "_law_points" (defArgs st__law_points) (defBody st__law_points) (defScope st__law_points) .none kV23 dc23 pm23 an23 cd23 ct23), sl23⟩) (c23 : PySem.W.codeIn K cd23 "_law_points" = true) (k23 : PySem.W.keepIn K (.ref f23) = true)
    (a24 : PySem.W.nsIn K mainGlobals "_law_some" = some (some (.ref f24))) (l24 : K.lookup f24 = some ⟨oc24, od24, .func (PySem.W.fnOf "_law_some" "_law_some" (defArgs st__law_some) (defBody st__law_some) (defScope st__law_some) .none kV24 dc24 pm24 an24 cd24 ct24), sl24⟩) (c24 : PySem.W.codeIn K cd24 "_law_some" = true) (k24 : PySem.W.keepIn K (.ref f24) = true)
    (a25 : PySem.W.nsIn K mainGlobals "_law_row" = some (some (.ref f25))) (l25 : K.lookup f25 = some ⟨oc25, od25, .func (PySem.W.fnOf "_law_row" "_law_row" (defArgs st__law_row) (defBody st__law_row) (defScope st__law_row) .none kV25 dc25 pm25 an25 cd25 ct25), sl25⟩) (c25 : PySem.W.codeIn K cd25 "_law_row" = true) (k25 : PySem.W.keepIn K (.ref f25) = true)
    (a26 : PySem.W.nsIn K mainGlobals "_law_power" = some (some (.ref f26))) (l26 : K.lookup f26 = some ⟨oc26, od26, .func (PySem.W.fnOf "_law_power" "_law_power" (defArgs st__law_power) (defBody st__law_power) (defScope st__law_power) .none kV26 dc26 pm26 an26 cd26 ct26), sl26⟩) (c26 : PySem.W.codeIn K cd26 "_law_power" = true) (k26 : PySem.W.keepIn K (.ref f26) = true)
    (a27 : PySem.W.nsIn K mainGlobals "_law_right" = some (some (.ref f27))) (l27 : K.lookup f27 = some ⟨oc27, od27, .func (PySem.W.fnOf "_law_right" "_law_right" (defArgs st__law_right) (defBody st__law_right) (defScope st__law_right) .none kV27 dc27 pm27 an27 cd27 ct27), sl27⟩) (c27 : PySem.W.codeIn K cd27 "_law_right" = true) (k27 : PySem.W.keepIn K (.ref f27) = true)
    (a28 : PySem.W.nsIn K mainGlobals "_law_bent" = some (some (.ref f28))) (l28 : K.lookup f28 = some ⟨oc28, od28, .func (PySem.W.fnOf "_law_bent" "_law_bent" (defArgs st__law_bent) (defBody st__law_bent) (defScope st__law_bent) .none kV28 dc28 pm28 an28 cd28 ct28), sl28⟩) (c28 : PySem.W.codeIn K cd28 "_law_bent" = true) (k28 : PySem.W.keepIn K (.ref f28) = true)
    (a29 : PySem.W.nsIn K mainGlobals "_law_is_plan" = some (some (.ref f29))) (l29 : K.lookup f29 = some ⟨oc29, od29, .func (PySem.W.fnOf "_law_is_plan" "_law_is_plan" (defArgs st__law_is_plan) (defBody st__law_is_plan) (defScope st__law_is_plan) .none kV29 dc29 pm29 an29 cd29 ct29), sl29⟩) (c29 : PySem.W.codeIn K cd29 "_law_is_plan" = true) (k29 : PySem.W.keepIn K (.ref f29) = true)
    (a30 : PySem.W.nsIn K mainGlobals "_law_judged" = some (some (.ref f30))) (l30 : K.lookup f30 = some ⟨oc30, od30, .func (PySem.W.fnOf "_law_judged" "_law_judged" (defArgs st__law_judged) (defBody st__law_judged) (defScope st__law_judged) .none kV30 dc30 pm30 an30 cd30 ct30), sl30⟩) (c30 : PySem.W.codeIn K cd30 "_law_judged" = true) (k30 : PySem.W.keepIn K (.ref f30) = true)
    (a31 : PySem.W.nsIn K mainGlobals "_law_ways" = some (some (.ref f31))) (l31 : K.lookup f31 = some ⟨oc31, od31, .func (PySem.W.fnOf "_law_ways" "_law_ways" (defArgs st__law_ways) (defBody st__law_ways) (defScope st__law_ways) .none kV31 dc31 pm31 an31 cd31 ct31), sl31⟩) (c31 : PySem.W.codeIn K cd31 "_law_ways" = true) (k31 : PySem.W.keepIn K (.ref f31) = true)
    (a32 : PySem.W.nsIn K mainGlobals "law" = some (some (.ref f32))) (l32 : K.lookup f32 = some ⟨oc32, od32, .func (PySem.W.fnOf "law" "law" (defArgs st_law) (defBody st_law) (defScope st_law) .none kV32 dc32 pm32 an32 cd32 ct32), sl32⟩) (c32 : PySem.W.codeIn K cd32 "law" = true) (k32 : PySem.W.keepIn K (.ref f32) = true)
    (z_abs : PySem.W.nsIn K mainGlobals "abs" = some none)
    (z_all : PySem.W.nsIn K mainGlobals "all" = some none)
    (z_bool : PySem.W.nsIn K mainGlobals "bool" = some none)
    (z_enumerate : PySem.W.nsIn K mainGlobals "enumerate" = some none)
    (z_int : PySem.W.nsIn K mainGlobals "int" = some none)
    (z_isinstance : PySem.W.nsIn K mainGlobals "isinstance" = some none)
    (z_len : PySem.W.nsIn K mainGlobals "len" = some none)
    (z_list : PySem.W.nsIn K mainGlobals "list" = some none)
    (z_min : PySem.W.nsIn K mainGlobals "min" = some none)
    (z_range : PySem.W.nsIn K mainGlobals "range" = some none)
    (z_sorted : PySem.W.nsIn K mainGlobals "sorted" = some none)
    (z_str : PySem.W.nsIn K mainGlobals "str" = some none)
    (z_sum : PySem.W.nsIn K mainGlobals "sum" = some none)
    (z_tuple : PySem.W.nsIn K mainGlobals "tuple" = some none)
    (z_zip : PySem.W.nsIn K mainGlobals "zip" = some none)
    (y_LEAST : PySem.W.nsIn K mainGlobals "LEAST" = some (some (.int (-1) t0)))
    (y_MOST_BOUND : PySem.W.nsIn K mainGlobals "MOST_BOUND" = some (some (.int 41 t1)))
    (y_SIGNS : PySem.W.nsIn K mainGlobals "SIGNS" = some (some (.str "ud" t2)))
    (y_TRIALS : PySem.W.nsIn K mainGlobals "TRIALS" = some (some (.int 40 t3)))
    : ∃ fd : FuncData, (∀ (s : Shared) (v : Value), BindsTo s fd ⟨[v], []⟩ [("script", v)]) ∧ ∀ base : Heap, K.In base → base.Ns mainGlobals mg → FnOk l.prog w K mg base (L2.CX l.prog w) 16 fa fd ["script"] (spLaw K) := by
  have e := hfa.symm.trans (PySem.W.mg_of X G a32)
  cases e
  have F0 := fun_mk (st := st__law_cup) l0 c0 k0
  have F1 := fun_mk (st := st__law_roll) l1 c1 k1
  have F2 := fun_mk (st := st__law_sort) l2 c2 k2
  have F3 := fun_mk (st := st__law_like) l3 c3 k3
  have F4 := fun_mk (st := st_is_tuple_of) l4 c4 k4
  have F5 := fun_mk (st := st_is_integer) l5 c5 k5
  have F6 := fun_mk (st := st_is_whole) l6 c6 k6
  have F7 := fun_mk (st := st_fits_bounds) l7 c7 k7
  have F8 := fun_mk (st := st_fits_end_plan) l8 c8 k8
  have F9 := fun_mk (st := st_is_end_plan) l9 c9 k9
  have F10 := fun_mk (st := st_need_end_plan) l10 c10 k10
  have F11 := fun_mk (st := st_end_of) l11 c11 k11
  have F12 := fun_mk (st := st_is_word) l12 c12 k12
  have F13 := fun_mk (st := st_end_of_row) l13 c13 k13
  have F14 := fun_mk (st := st_layers_of_plan) l14 c14 k14
  have F15 := fun_mk (st := st_points_in_plan) l15 c15 k15
  have F16 := fun_mk (st := st_end_points) l16 c16 k16
  have F17 := fun_mk (st := st_need_whole) l17 c17 k17
  have F18 := fun_mk (st := st_open_counts) l18 c18 k18
  have F19 := fun_mk (st := st__law_plan) l19 c19 k19
  have F20 := fun_mk (st := st__law_rows) l20 c20 k20
  have F21 := fun_mk (st := st__law_end) l21 c21 k21
  have F22 := fun_mk (st := st__law_small_right) l22 c22 k22
  have F23 := fun_mk (st := st__law_points) l23 c23 k23
  have F24 := fun_mk (st := st__law_some) l24 c24 k24
  have F25 := fun_mk (st := st__law_row) l25 c25 k25
  have F26 := fun_mk (st := st__law_power) l26 c26 k26
  have F27 := fun_mk (st := st__law_right) l27 c27 k27
  have F28 := fun_mk (st := st__law_bent) l28 c28 k28
  have F29 := fun_mk (st := st__law_is_plan) l29 c29 k29
  have F30 := fun_mk (st := st__law_judged) l30 c30 k30
  have F31 := fun_mk (st := st__law_ways) l31 c31 k31
  have F32 := fun_mk (st := st_law) l32 c32 k32
  have b0 := F0.binds (ps := ["script"]) fun _ _ _ _ _ _ us hl => match us, hl with | [_], _ => rfl
  have b1 := F1.binds (ps := ["cup", "many"]) fun _ _ _ _ _ _ us hl => match us, hl with | [_, _], _ => rfl
  have b2 := F2.binds (ps := ["value"]) fun _ _ _ _ _ _ us hl => match us, hl with | [_], _ => rfl
  have b3 := F3.binds (ps := ["one", "other"]) fun _ _ _ _ _ _ us hl => match us, hl with | [_, _], _ => rfl
  have b4 := F4.binds (ps := ["value", "low", "high"]) fun _ _ _ _ _ _ us hl => match us, hl with | [_, _, _], _ => rfl
  have b5 := F5.binds (ps := ["value"]) fun _ _ _ _ _ _ us hl => match us, hl with | [_], _ => rfl
  have b6 := F6.binds (ps := ["value", "low", "high"]) fun _ _ _ _ _ _ us hl => match us, hl with | [_, _, _], _ => rfl
  have b7 := F7.binds (ps := ["value"]) fun _ _ _ _ _ _ us hl => match us, hl with | [_], _ => rfl
  have b8 := F8.binds (ps := ["value"]) fun _ _ _ _ _ _ us hl => match us, hl with | [_], _ => rfl
  have b9 := F9.binds (ps := ["value"]) fun _ _ _ _ _ _ us hl => match us, hl with | [_], _ => rfl
  have b10 := F10.binds (ps := ["value"]) fun _ _ _ _ _ _ us hl => match us, hl with | [_], _ => rfl
  have b11 := F11.binds (ps := ["plan", "row"]) fun _ _ _ _ _ _ us hl => match us, hl with | [_, _], _ => rfl
  have b12 := F12.binds (ps := ["value", "signs", "low", "high"]) fun _ _ _ _ _ _ us hl => match us, hl with | [_, _, _, _], _ => rfl
  have b13 := F13.binds (ps := ["plan", "row"]) fun _ _ _ _ _ _ us hl => match us, hl with | [_, _], _ => rfl
  have b14 := F14.binds (ps := ["plan"]) fun _ _ _ _ _ _ us hl => match us, hl with | [_], _ => rfl
  have b15 := F15.binds (ps := ["plan"]) fun _ _ _ _ _ _ us hl => match us, hl with | [_], _ => rfl
  have b16 := F16.binds (ps := ["plan"]) fun _ _ _ _ _ _ us hl => match us, hl with | [_], _ => rfl
  have b17 := F17.binds (ps := ["value", "low", "high"]) fun _ _ _ _ _ _ us hl => match us, hl with | [_, _, _], _ => rfl
  have b18 := F18.binds (ps := ["plan", "many"]) fun _ _ _ _ _ _ us hl => match us, hl with | [_, _], _ => rfl
  have b19 := F19.binds (ps := ["cup", "most"]) fun _ _ _ _ _ _ us hl => match us, hl with | [_, _], _ => rfl
  have b20 := F20.binds (ps := ["many"]) fun _ _ _ _ _ _ us hl => match us, hl with | [_], _ => rfl
  have b21 := F21.binds (ps := ["plan", "row"]) fun _ _ _ _ _ _ us hl => match us, hl with | [_, _], _ => rfl
  have b22 := F22.binds (ps := ["plan"]) fun _ _ _ _ _ _ us hl => match us, hl with | [_], _ => rfl
  have b23 := F23.binds (ps := ["plan"]) fun _ _ _ _ _ _ us hl => match us, hl with | [_], _ => rfl
  have b24 := F24.binds (ps := ["cup", "things"]) fun _ _ _ _ _ _ us hl => match us, hl with | [_, _], _ => rfl
  have b25 := F25.binds (ps := ["cup", "most"]) fun _ _ _ _ _ _ us hl => match us, hl with | [_, _], _ => rfl
  have b26 := F26.binds (ps := ["number", "times"]) fun _ _ _ _ _ _ us hl => match us, hl with | [_, _], _ => rfl
  have b27 := F27.binds (ps := ["cup", "plan"]) fun _ _ _ _ _ _ us hl => match us, hl with | [_, _], _ => rfl
  have b28 := F28.binds (ps := ["cup", "value"]) fun _ _ _ _ _ _ us hl => match us, hl with | [_, _], _ => rfl
  have b29 := F29.binds (ps := ["value"]) fun _ _ _ _ _ _ us hl => match us, hl with | [_], _ => rfl
  have b30 := F30.binds (ps := ["cup", "plan"]) fun _ _ _ _ _ _ us hl => match us, hl with | [_, _], _ => rfl
  have b31 := F31.binds (ps := ["many", "some"]) fun _ _ _ _ _ _ us hl => match us, hl with | [_, _], _ => rfl
  have b32 := F32.binds (ps := ["script"]) fun _ _ _ _ _ _ us hl => match us, hl with | [_], _ => rfl
  let ad : Nat → Addr := fun j => match j with | 0 => f0 | 1 => f1 | 2 => f2 | 3 => f3 | 4 => f4 | 5 => f5 | 6 => f6 | 7 => f7 | 8 => f8 | 9 => f9 | 10 => f10 | 11 => f11 | 12 => f12 | 13 => f13 | 14 => f14 | 15 => f15 | 16 => f16 | 17 => f17 | 18 => f18 | 19 => f19 | 20 => f20 | 21 => f21 | 22 => f22 | 23 => f23 | 24 => f24 | 25 => f25 | 26 => f26 | 27 => f27 | 28 => f28 | 29 => f29 | 30 => f30 | 31 => f31 | _ => fa
  let fd : Nat → FuncData := fun j => match j with | 0 => PySem.W.fnOf "_law_cup" "_law_cup" (defArgs st__law_cup) (defBody st__law_cup) (defScope st__law_cup) .none kV0 dc0 pm0 an0 cd0 ct0 | 1 => PySem.W.fnOf "_law_roll" "_law_roll" (defArgs st__law_roll) (defBody st__law_roll) (defScope st__law_roll) .none kV1 dc1 pm1 an1 cd1 ct1 | 2 => PySem.W.fnOf "_law_sort" "_law_sort" (defArgs st__law_sort) (defBody st__law_sort) (defScope st__law_sort) .none kV2 dc2 pm2 an2 cd2 ct2 | 3 => PySem.W.fnOf "_law_like" "_law_like" (defArgs st__law_like) (defBody st__law_like) (defScope st__law_like) .none kV3 dc3 pm3 an3 cd3 ct3 | 4 => PySem.W.fnOf "is_tuple_of" "is_tuple_of" (defArgs st_is_tuple_of) (defBody st_is_tuple_of) (defScope st_is_tuple_of) .none kV4 dc4 pm4 an4 cd4 ct4 | 5 => PySem.W.fnOf "is_integer" "is_integer" (defArgs st_is_integer) (defBody st_is_integer) (defScope st_is_integer) .none kV5 dc5 pm5 an5 cd5 ct5 | 6 => PySem.W.fnOf "is_whole" "is_whole" (defArgs st_is_whole) (defBody st_is_whole) (defScope st_is_whole) .none kV6 dc6 pm6 an6 cd6 ct6 | 7 => PySem.W.fnOf "fits_bounds" "fits_bounds" (defArgs st_fits_bounds) (defBody st_fits_bounds) (defScope st_fits_bounds) .none kV7 dc7 pm7 an7 cd7 ct7 | 8 => PySem.W.fnOf "fits_end_plan" "fits_end_plan" (defArgs st_fits_end_plan) (defBody st_fits_end_plan) (defScope st_fits_end_plan) .none kV8 dc8 pm8 an8 cd8 ct8 | 9 => PySem.W.fnOf "is_end_plan" "is_end_plan" (defArgs st_is_end_plan) (defBody st_is_end_plan) (defScope st_is_end_plan) .none kV9 dc9 pm9 an9 cd9 ct9 | 10 => PySem.W.fnOf "need_end_plan" "need_end_plan" (defArgs st_need_end_plan) (defBody st_need_end_plan) (defScope st_need_end_plan) .none kV10 dc10 pm10 an10 cd10 ct10 | 11 => PySem.W.fnOf "end_of" "end_of" (defArgs st_end_of) (defBody st_end_of) (defScope st_end_of) .none kV11 dc11 pm11 an11 cd11 ct11 | 12 => PySem.W.fnOf "is_word" "is_word" (defArgs st_is_word) (defBody st_is_word) (defScope st_is_word) .none kV12 dc12 pm12 an12 cd12 ct12 | 13 => PySem.W.fnOf "end_of_row" "end_of_row" (defArgs st_end_of_row) (defBody st_end_of_row) (defScope st_end_of_row) .none kV13 dc13 pm13 an13 cd13 ct13 | 14 => PySem.W.fnOf "layers_of_plan" "layers_of_plan" (defArgs st_layers_of_plan) (defBody st_layers_of_plan) (defScope st_layers_of_plan) .none kV14 dc14 pm14 an14 cd14 ct14 | 15 => PySem.W.fnOf "points_in_plan" "points_in_plan" (defArgs st_points_in_plan) (defBody st_points_in_plan) (defScope st_points_in_plan) .none kV15 dc15 pm15 an15 cd15 ct15 | 16 => PySem.W.fnOf "end_points" "end_points" (defArgs st_end_points) (defBody st_end_points) (defScope st_end_points) .none kV16 dc16 pm16 an16 cd16 ct16 | 17 => PySem.W.fnOf "need_whole" "need_whole" (defArgs st_need_whole) (defBody st_need_whole) (defScope st_need_whole) .none kV17 dc17 pm17 an17 cd17 ct17 | 18 => PySem.W.fnOf "open_counts" "open_counts" (defArgs st_open_counts) (defBody st_open_counts) (defScope st_open_counts) .none kV18 dc18 pm18 an18 cd18 ct18 | 19 => PySem.W.fnOf "_law_plan" "_law_plan" (defArgs st__law_plan) (defBody st__law_plan) (defScope st__law_plan) .none kV19 dc19 pm19 an19 cd19 ct19 | 20 => PySem.W.fnOf "_law_rows" "_law_rows" (defArgs st__law_rows) (defBody st__law_rows) (defScope st__law_rows) .none kV20 dc20 pm20 an20 cd20 ct20 | 21 => PySem.W.fnOf "_law_end" "_law_end" (defArgs st__law_end) (defBody st__law_end) (defScope st__law_end) .none kV21 dc21 pm21 an21 cd21 ct21 | 22 => PySem.W.fnOf "_law_small_right" "_law_small_right" (defArgs st__law_small_right) (defBody st__law_small_right) (defScope st__law_small_right) .none kV22 dc22 pm22 an22 cd22 ct22 | 23 => PySem.W.fnOf "_law_points" "_law_points" (defArgs st__law_points) (defBody st__law_points) (defScope st__law_points) .none kV23 dc23 pm23 an23 cd23 ct23 | 24 => PySem.W.fnOf "_law_some" "_law_some" (defArgs st__law_some) (defBody st__law_some) (defScope st__law_some) .none kV24 dc24 pm24 an24 cd24 ct24 | 25 => PySem.W.fnOf "_law_row" "_law_row" (defArgs st__law_row) (defBody st__law_row) (defScope st__law_row) .none kV25 dc25 pm25 an25 cd25 ct25 | 26 => PySem.W.fnOf "_law_power" "_law_power" (defArgs st__law_power) (defBody st__law_power) (defScope st__law_power) .none kV26 dc26 pm26 an26 cd26 ct26 | 27 => PySem.W.fnOf "_law_right" "_law_right" (defArgs st__law_right) (defBody st__law_right) (defScope st__law_right) .none kV27 dc27 pm27 an27 cd27 ct27 | 28 => PySem.W.fnOf "_law_bent" "_law_bent" (defArgs st__law_bent) (defBody st__law_bent) (defScope st__law_bent) .none kV28 dc28 pm28 an28 cd28 ct28 | 29 => PySem.W.fnOf "_law_is_plan" "_law_is_plan" (defArgs st__law_is_plan) (defBody st__law_is_plan) (defScope st__law_is_plan) .none kV29 dc29 pm29 an29 cd29 ct29 | 30 => PySem.W.fnOf "_law_judged" "_law_judged" (defArgs st__law_judged) (defBody st__law_judged) (defScope st__law_judged) .none kV30 dc30 pm30 an30 cd30 ct30 | 31 => PySem.W.fnOf "_law_ways" "_law_ways" (defArgs st__law_ways) (defBody st__law_ways) (defScope st__law_ways) .none kV31 dc31 pm31 an31 cd31 ct31 | _ => PySem.W.fnOf "law" "law" (defArgs st_law) (defBody st_law) (defScope st_law) .none kV32 dc32 pm32 an32 cd32 ct32
  have T : Txt K mg ad fd := ⟨PySem.W.mg_of X G a0, k0, b0, PySem.W.mg_of X G a1, k1, b1, PySem.W.mg_of X G a2, k2, b2, PySem.W.mg_of X G a3, k3, b3, PySem.W.mg_of X G a4, k4, b4, PySem.W.mg_of X G a5, k5, b5, PySem.W.mg_of X G a6, k6, b6, PySem.W.mg_of X G a7, k7, b7, PySem.W.mg_of X G a8, k8, b8, PySem.W.mg_of X G a9, k9, b9, PySem.W.mg_of X G a10, k10, b10, PySem.W.mg_of X G a11, k11, b11, PySem.W.mg_of X G a12, k12, b12, PySem.W.mg_of X G a13, k13, b13, PySem.W.mg_of X G a14, k14, b14, PySem.W.mg_of X G a15, k15, b15, PySem.W.mg_of X G a16, k16, b16, PySem.W.mg_of X G a17, k17, b17, PySem.W.mg_of X G a18, k18, b18, PySem.W.mg_of X G a19, k19, b19, PySem.W.mg_of X G a20, k20, b20, PySem.W.mg_of X G a21, k21, b21, PySem.W.mg_of X G a22, k22, b22, PySem.W.mg_of X G a23, k23, b23, PySem.W.mg_of X G a24, k24, b24, PySem.W.mg_of X G a25, k25, b25, PySem.W.mg_of X G a26, k26, b26, PySem.W.mg_of X G a27, k27, b27, PySem.W.mg_of X G a28, k28, b28, PySem.W.mg_of X G a29, k29, b29, PySem.W.mg_of X G a30, k30, b30, PySem.W.mg_of X G a31, k31, b31, PySem.W.mg_none_of X G z_abs, PySem.W.mg_none_of X G z_all, PySem.W.mg_none_of X G z_bool, PySem.W.mg_none_of X G z_enumerate, PySem.W.mg_none_of X G z_int, PySem.W.mg_none_of X G z_isinstance, PySem.W.mg_none_of X G z_len, PySem.W.mg_none_of X G z_list, PySem.W.mg_none_of X G z_min, PySem.W.mg_none_of X G z_range, PySem.W.mg_none_of X G z_sorted, PySem.W.mg_none_of X G z_str, PySem.W.mg_none_of X G z_sum, PySem.W.mg_none_of X G z_tuple, PySem.W.mg_none_of X G z_zip, ⟨_, PySem.W.mg_of X G y_LEAST⟩, ⟨_, PySem.W.mg_of X G y_MOST_BOUND⟩, ⟨_, PySem.W.mg_of X G y_SIGNS⟩, ⟨_, PySem.W.mg_of X G y_TRIALS⟩⟩
  refine ⟨fd 32, fun s v => .of_eq rfl, fun base _ _ => ?_⟩
  have G__law_cup := ok__law_cup (P := l.prog) (w := w) (base := base) (cl := fun _ => 0) T F0 
  have G__law_roll := ok__law_roll (P := l.prog) (w := w) (base := base) (cl := fun _ => 0) T F1 
  have G__law_sort := ok__law_sort (P := l.prog) (w := w) (base := base) (cl := fun _ => 0) T F2 
  have G__law_like := ok__law_like (P := l.prog) (w := w) (base := base) (cl := fun _ => 0) T F3 G__law_sort 12
  have G_is_tuple_of := ok_is_tuple_of (P := l.prog) (w := w) (base := base) (cl := fun _ => 0) T F4 
  have G_is_integer := ok_is_integer (P := l.prog) (w := w) (base := base) (cl := fun _ => 0) T F5 
  have G_is_whole := ok_is_whole (P := l.prog) (w := w) (base := base) (cl := fun _ => 0) T F6 G_is_integer
  have G_fits_bounds := ok_fits_bounds (P := l.prog) (w := w) (base := base) (cl := fun _ => 0) T F7 G_is_tuple_of G_is_whole
  have G_fits_end_plan := ok_fits_end_plan (P := l.prog) (w := w) (base := base) (cl := fun _ => 0) T F8 G_is_tuple_of G_fits_bounds
  have G_is_end_plan := ok_is_end_plan (P := l.prog) (w := w) (base := base) (cl := fun _ => 0) T F9 G_fits_end_plan
  have G_need_end_plan := ok_need_end_plan (P := l.prog) (w := w) (base := base) (cl := fun _ => 0) T F10 G_fits_end_plan
  have G_end_of := ok_end_of (P := l.prog) (w := w) (base := base) (cl := fun _ => 0) T F11 
  have G_is_word := ok_is_word (P := l.prog) (w := w) (base := base) (cl := fun _ => 0) T F12 
  have G_end_of_row := ok_end_of_row (P := l.prog) (w := w) (base := base) (cl := fun _ => 0) T F13 G_need_end_plan G_is_word G_end_of
  have G_layers_of_plan := ok_layers_of_plan (P := l.prog) (w := w) (base := base) (cl := fun _ => 0) T F14 
  have G_points_in_plan := ok_points_in_plan (P := l.prog) (w := w) (base := base) (cl := fun _ => 0) T F15 G_layers_of_plan
  have G_end_points := ok_end_points (P := l.prog) (w := w) (base := base) (cl := fun _ => 0) T F16 G_need_end_plan G_points_in_plan
  have G_need_whole := ok_need_whole (P := l.prog) (w := w) (base := base) (cl := fun _ => 0) T F17 G_is_whole
  have G_open_counts := ok_open_counts (P := l.prog) (w := w) (base := base) (cl := fun _ => 0) T F18 G_need_end_plan G_need_whole G_layers_of_plan
  have G__law_plan := ok__law_plan (P := l.prog) (w := w) (base := base) (cl := fun _ => 0) T F19 G__law_roll
  have G__law_rows := ok__law_rows (P := l.prog) (w := w) (base := base) (cl := fun _ => 0) T F20 
  have G__law_end := ok__law_end (P := l.prog) (w := w) (base := base) (cl := fun _ => 0) T F21 
  have G__law_small_right := ok__law_small_right (P := l.prog) (w := w) (base := base) (cl := fun _ => 0) T F22 G__law_rows G__law_end G_end_points G__law_like G_open_counts
  have G__law_points := ok__law_points (P := l.prog) (w := w) (base := base) (cl := fun _ => 0) T F23 
  have G__law_some := ok__law_some (P := l.prog) (w := w) (base := base) (cl := fun _ => 0) T F24 G__law_roll
  have G__law_row := ok__law_row (P := l.prog) (w := w) (base := base) (cl := fun _ => 0) T F25 G__law_roll G__law_some
  have G__law_power := ok__law_power (P := l.prog) (w := w) (base := base) (cl := fun _ => 0) T F26 
  have G__law_right := ok__law_right (P := l.prog) (w := w) (base := base) (cl := fun _ => 0) T F27 G__law_points G_is_end_plan G_end_points G__law_like G__law_row G_end_of_row G__law_end G_open_counts G__law_roll G__law_power
  have G__law_bent := ok__law_bent (P := l.prog) (w := w) (base := base) (cl := fun _ => 0) T F28 G__law_roll G__law_sort G__law_some 6
  have G__law_is_plan := ok__law_is_plan (P := l.prog) (w := w) (base := base) (cl := fun _ => 0) T F29 G__law_sort
  have G__law_judged := ok__law_judged (P := l.prog) (w := w) (base := base) (cl := fun _ => 0) T F30 G__law_roll G__law_bent G_is_end_plan G__law_is_plan G__law_like
  have G__law_ways := ok__law_ways (P := l.prog) (w := w) (base := base) (cl := fun _ => 0) T F31 
  have G_law := ok_law (P := l.prog) (w := w) (base := base) (cl := fun _ => 0) T F32 G__law_cup G_is_end_plan G_end_of_row G__law_like G_end_points G_open_counts G__law_plan G__law_right G__law_judged G__law_small_right G__law_roll G__law_ways
  exact G_law.imp law_sp
end K75
open PySem PySem.W PyProof.Rows
set_option maxRecDepth 100000 in
set_option maxHeartbeats 0 in
theorem PySem.Challenge.cw_exacttests_k75_whole_plans_and_rows_holds : PySem.Challenge.rw_exacttests_k75_whole_plans_and_rows.Holds := by
  w_on; o_law; k_head; (case hw => w_witness2)
  k_fill
  refine L2.walk_of (l := PySem.Challenge.rw_exacttests_k75_whole_plans_and_rows) (n := 63) (k := 16) (x := "script") (CX := fun w => L2.CX PySem.Challenge.rw_exacttests_k75_whole_plans_and_rows.prog w) (sp := fun w => K75.spLaw _) rfl (by decide) rfl ⟨rfl, by decide, by decide⟩ (fun w h Y => PySem.W.kIn_of Y) ?F (fun _ _ a ns hl _ hS => ⟨a, ns, rfl, hS, hl, fun _ => rfl⟩) (fun _ _ _ _ _ h => by obtain ⟨_, _, _, _, _, _, _, _, _, _, _, _, z⟩ := h; exact z)
  case F =>
    intro w mg fa h KX G hmg
    refine' K75.all_mk KX G hmg ?a0 ?l0 ?c0 ?k0 ?a1 ?l1 ?c1 ?k1 ?a2 ?l2 ?c2 ?k2 ?a3 ?l3 ?c3 ?k3 ?a4 ?l4 ?c4 ?k4 ?a5 ?l5 ?c5 ?k5 ?a6 ?l6 ?c6 ?k6 ?a7 ?l7 ?c7 ?k7 ?a8 ?l8 ?c8 ?k8 ?a9 ?l9 ?c9 ?k9 ?a10 ?l10 ?c10 ?k10 ?a11 ?l11 ?c11 ?k11 ?a12 ?l12 ?c12 ?k12 ?a13 ?l13 ?c13 ?k13 ?a14 ?l14 ?c14 ?k14 ?a15 ?l15 ?c15 ?k15 ?a16 ?l16 ?c16 ?k16 ?a17 ?l17 ?c17 ?k17 ?a18 ?l18 ?c18 ?k18 ?a19 ?l19 ?c19 ?k19 ?a20 ?l20 ?c20 ?k20 ?a21 ?l21 ?c21 ?k21 ?a22 ?l22 ?c22 ?k22 ?a23 ?l23 ?c23 ?k23 ?a24 ?l24 ?c24 ?k24 ?a25 ?l25 ?c25 ?k25 ?a26 ?l26 ?c26 ?k26 ?a27 ?l27 ?c27 ?k27 ?a28 ?l28 ?c28 ?k28 ?a29 ?l29 ?c29 ?k29 ?a30 ?l30 ?c30 ?k30 ?a31 ?l31 ?c31 ?k31 ?a32 ?l32 ?c32 ?k32 ?z_abs ?z_all ?z_bool ?z_enumerate ?z_int ?z_isinstance ?z_len ?z_list ?z_min ?z_range ?z_sorted ?z_str ?z_sum ?z_tuple ?z_zip ?y_LEAST ?y_MOST_BOUND ?y_SIGNS ?y_TRIALS
    (case a0 => k_is); (case l0 => k_is); (case c0 => k_is); (case k0 => k_is)
    (case a1 => k_is); (case l1 => k_is); (case c1 => k_is); (case k1 => k_is)
    (case a2 => k_is); (case l2 => k_is); (case c2 => k_is); (case k2 => k_is)
    (case a3 => k_is); (case l3 => k_is); (case c3 => k_is); (case k3 => k_is)
    (case a4 => k_is); (case l4 => k_is); (case c4 => k_is); (case k4 => k_is)
    (case a5 => k_is); (case l5 => k_is); (case c5 => k_is); (case k5 => k_is)
    (case a6 => k_is); (case l6 => k_is); (case c6 => k_is); (case k6 => k_is)
    (case a7 => k_is); (case l7 => k_is); (case c7 => k_is); (case k7 => k_is)
    (case a8 => k_is); (case l8 => k_is); (case c8 => k_is); (case k8 => k_is)
    (case a9 => k_is); (case l9 => k_is); (case c9 => k_is); (case k9 => k_is)
    (case a10 => k_is); (case l10 => k_is); (case c10 => k_is); (case k10 => k_is)
    (case a11 => k_is); (case l11 => k_is); (case c11 => k_is); (case k11 => k_is)
    (case a12 => k_is); (case l12 => k_is); (case c12 => k_is); (case k12 => k_is)
    (case a13 => k_is); (case l13 => k_is); (case c13 => k_is); (case k13 => k_is)
    (case a14 => k_is); (case l14 => k_is); (case c14 => k_is); (case k14 => k_is)
    (case a15 => k_is); (case l15 => k_is); (case c15 => k_is); (case k15 => k_is)
    (case a16 => k_is); (case l16 => k_is); (case c16 => k_is); (case k16 => k_is)
    (case a17 => k_is); (case l17 => k_is); (case c17 => k_is); (case k17 => k_is)
    (case a18 => k_is); (case l18 => k_is); (case c18 => k_is); (case k18 => k_is)
    (case a19 => k_is); (case l19 => k_is); (case c19 => k_is); (case k19 => k_is)
    (case a20 => k_is); (case l20 => k_is); (case c20 => k_is); (case k20 => k_is)
    (case a21 => k_is); (case l21 => k_is); (case c21 => k_is); (case k21 => k_is)
    (case a22 => k_is); (case l22 => k_is); (case c22 => k_is); (case k22 => k_is)
    (case a23 => k_is); (case l23 => k_is); (case c23 => k_is); (case k23 => k_is)
    (case a24 => k_is); (case l24 => k_is); (case c24 => k_is); (case k24 => k_is)
    (case a25 => k_is); (case l25 => k_is); (case c25 => k_is); (case k25 => k_is)
    (case a26 => k_is); (case l26 => k_is); (case c26 => k_is); (case k26 => k_is)
    (case a27 => k_is); (case l27 => k_is); (case c27 => k_is); (case k27 => k_is)
    (case a28 => k_is); (case l28 => k_is); (case c28 => k_is); (case k28 => k_is)
    (case a29 => k_is); (case l29 => k_is); (case c29 => k_is); (case k29 => k_is)
    (case a30 => k_is); (case l30 => k_is); (case c30 => k_is); (case k30 => k_is)
    (case a31 => k_is); (case l31 => k_is); (case c31 => k_is); (case k31 => k_is)
    (case a32 => k_is); (case l32 => k_is); (case c32 => k_is); (case k32 => k_is)
    (case z_abs => k_is)
    (case z_all => k_is)
    (case z_bool => k_is)
    (case z_enumerate => k_is)
    (case z_int => k_is)
    (case z_isinstance => k_is)
    (case z_len => k_is)
    (case z_list => k_is)
    (case z_min => k_is)
    (case z_range => k_is)
    (case z_sorted => k_is)
    (case z_str => k_is)
    (case z_sum => k_is)
    (case z_tuple => k_is)
    (case z_zip => k_is)
    (case y_LEAST => k_is)
    (case y_MOST_BOUND => k_is)
    (case y_SIGNS => k_is)
    (case y_TRIALS => k_is)
