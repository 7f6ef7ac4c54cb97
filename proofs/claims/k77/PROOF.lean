import PyProof.Rows.All
import Wide.All
import OpenK.AllK
import Wide.FinOn
import HandS.ForMost
import HandS.ForExc
import HandS.Walk
import HandS.IsInst
import HandS.TupAny
import HandS.SortInts
import HandS.SortRule
import HandS.Wide
import HandS.CallSlots
import HandS.Style
import HandS.Evl
import HandS.Deep
import HandS.TupMul
import HandS.Zip
import KE.GoesEnum
import HandS.More
import HandS.Dict
import HandS.Iter
import KE.KDictCopyH
import HandS.DictTup
import HandS.SetFor
import HandS.Strs
import PySem.Challenge.RW_exacttests_k77_whole_plans_at_rates
set_option Elab.async false
set_option linter.all false
set_option maxRecDepth 100000
set_option maxHeartbeats 2000000
/-! DC: deep values D, their representation in the abstract heap, slots, cells; the state relation Rl. -/
namespace DC
open PySem PySem.Spec PyProof.Rows L2
/-- a deep value -/
inductive D where
  | non
  | bl (b : Bool)
  | int (i : Int)
  | str (x : Str)
  | tup (xs : List D)
  | lst (xs : List D)
  | scr (ns : List Int)
  | dk (ks : List Key) (vs : List D)
  | dt (ks : List (List Key)) (vs : List D)
  | own (n : Nat)
  deriving Inhabited
/-- a slot: nothing known, a value that stands, an own container -/
inductive Sl where
  | no
  | fz (d : D)
  | ow (d : D)
  deriving Inhabited
abbrev Env := List Sl
abbrev Store := List (List Int)
def Exts (H H' : Hp) : Prop := ∀ a o, H a = some o → H' a = some o
theorem Exts.refl (H : Hp) : Exts H H := fun _ _ h => h
theorem Exts.trans {H H1 H2 : Hp} (a : Exts H H1) (b : Exts H1 H2) : Exts H H2 := fun x o h => b x o (a x o h)
theorem Exts.new {H : Hp} {p : Addr} {o : HO} (h : H p = none) : Exts H (upd H p o) := fun a u e => by
  rw [upd_ne (ne_of_none e h)]; exact e
theorem Exts.rd {H H' : Hp} {a : Addr} {u : HO} (e : Exts H H') (h : Rd H a u) : Rd H' a u := by
  rcases h with h | ⟨o, h⟩
  · exact .inl (e _ _ h)
  · exact .inr ⟨o, e _ _ h⟩
theorem Exts.sqL {K : PySem.W.Frag} {H H' : Hp} {a : Addr} {xs : List V} (e : Exts H H') (h : SqL K H a xs) : SqL K H' a xs := by
  rcases h with h | h
  · exact .inl (e.rd h)
  · exact .inr h
theorem Exts.sqT {K : PySem.W.Frag} {H H' : Hp} {a : Addr} {xs : List V} (e : Exts H H') (h : SqT K H a xs) : SqT K H' a xs := by
  rcases h with h | h
  · exact .inl (e.rd h)
  · exact .inr h
def strOk (x : Str) : Bool := x.cps.all (· < 0x110000)
mutual
inductive Rp (K : PySem.W.Frag) (T : List Addr) (H : Hp) : V → D → Prop
  | non : Rp K T H .non .non
  | bl (b : Bool) : Rp K T H (.bl b) (.bl b)
  | int (i : Int) : Rp K T H (.int i) (.int i)
  | str {x : Str} (h : strOk x = true) : Rp K T H (.str x) (.str x)
  | tup {a : Addr} {xs : List V} {ds : List D} : SqT K H a xs → RpA K T H xs ds → Rp K T H (.ref a) (.tup ds)
  | lst {a : Addr} {xs : List V} {ds : List D} : H a = some (.lst xs) → RpA K T H xs ds → Rp K T H (.ref a) (.lst ds)
  | scr {a : Addr} {ns : List Int} : SqL K H a (ns.map V.int) → Rp K T H (.ref a) (.scr ns)
  | dk {a : Addr} {kvs : List (Key × V)} {ks : List Key} {ds : List D} : Rd H a (.dK kvs) → kvs.map Prod.fst = ks → RpA K T H (kvs.map Prod.snd) ds → Rp K T H (.ref a) (.dk ks ds)
  | dt {a : Addr} {kvs : List (List Key × V)} {ks : List (List Key)} {ds : List D} : Rd H a (.dT kvs) → kvs.map Prod.fst = ks → RpA K T H (kvs.map Prod.snd) ds → Rp K T H (.ref a) (.dt ks ds)
  | own {a : Addr} {n : Nat} : T[n]? = some a → Rp K T H (.ref a) (.own n)
inductive RpA (K : PySem.W.Frag) (T : List Addr) (H : Hp) : List V → List D → Prop
  | nil : RpA K T H [] []
  | cons {v : V} {vs : List V} {d : D} {ds : List D} : Rp K T H v d → RpA K T H vs ds → RpA K T H (v :: vs) (d :: ds)
end
section
variable {K : PySem.W.Frag} {T : List Addr} {H H' : Hp}
mutual
theorem Rp.mono (e : Exts H H') : ∀ {d : D} {v : V}, Rp K T H v d → Rp K T H' v d
  | .non, _, h => by cases h; exact .non
  | .bl _, _, h => by cases h; exact .bl _
  | .int _, _, h => by cases h; exact .int _
  | .str _, _, h => by cases h with | str q => exact .str q
  | .tup ds, _, h => by cases h with | tup q r => exact .tup (e.sqT q) (RpA.mono e r)
  | .lst ds, _, h => by cases h with | lst q r => exact .lst (e _ _ q) (RpA.mono e r)
  | .scr ns, _, h => by cases h with | scr q => exact .scr (e.sqL q)
  | .dk ks ds, _, h => by cases h with | dk q z r => exact .dk (e.rd q) z (RpA.mono e r)
  | .dt ks ds, _, h => by cases h with | dt q z r => exact .dt (e.rd q) z (RpA.mono e r)
  | .own n, _, h => by cases h with | own q => exact .own q
theorem RpA.mono (e : Exts H H') : ∀ {ds : List D} {vs : List V}, RpA K T H vs ds → RpA K T H' vs ds
  | [], _, h => by cases h; exact .nil
  | d :: ds, _, h => by cases h with | cons q r => exact .cons (Rp.mono e q) (RpA.mono e r)
end
theorem RpA.length : ∀ {ds : List D} {vs : List V}, RpA K T H vs ds → vs.length = ds.length
  | [], _, h => by cases h; rfl
  | d :: ds, _, h => by cases h with | cons q r => rw [List.length_cons, List.length_cons, r.length]
theorem RpA.get : ∀ {ds : List D} {vs : List V} {i : Nat} {d : D}, RpA K T H vs ds → ds[i]? = some d → ∃ v, vs[i]? = some v ∧ Rp K T H v d
  | [], _, _, _, _, e => by simp at e
  | d :: ds, _, 0, _, h, e => by
    cases h with
    | cons q r =>
      have e' := Option.some.inj (by simpa using e)
      subst e'
      exact ⟨_, rfl, q⟩
  | d :: ds, _, i + 1, _, h, e => by
    cases h with
    | cons q r =>
      obtain ⟨v, e1, e2⟩ := RpA.get (i := i) r (by simpa using e)
      exact ⟨v, by simpa using e1, e2⟩
theorem RpA.getV : ∀ {ds : List D} {vs : List V} {i : Nat} {v : V}, RpA K T H vs ds → vs[i]? = some v → ∃ d, ds[i]? = some d ∧ Rp K T H v d
  | [], _, i, v, h, e => by cases h; simp at e
  | d :: ds, _, 0, _, h, e => by
    cases h with
    | cons q r =>
      have e' := Option.some.inj (by simpa using e)
      subst e'
      exact ⟨_, rfl, q⟩
  | d :: ds, _, i + 1, _, h, e => by
    cases h with
    | cons q r =>
      obtain ⟨v, e1, e2⟩ := RpA.getV (i := i) r (by simpa using e)
      exact ⟨v, by simpa using e1, e2⟩
theorem RpA.append : ∀ {ds es : List D} {vs ws : List V}, RpA K T H vs ds → RpA K T H ws es → RpA K T H (vs ++ ws) (ds ++ es)
  | [], _, _, _, h, h' => by cases h; exact h'
  | d :: ds, _, _, _, h, h' => by cases h with | cons q r => exact .cons q (r.append h')
theorem RpA.take : ∀ {ds : List D} {vs : List V} (n : Nat), RpA K T H vs ds → RpA K T H (vs.take n) (ds.take n)
  | _, _, 0, _ => by simp only [List.take_zero]; exact .nil
  | [], _, n + 1, h => by cases h; exact .nil
  | d :: ds, _, n + 1, h => by cases h with | cons q r => exact .cons q (r.take n)
theorem RpA.drop : ∀ {ds : List D} {vs : List V} (n : Nat), RpA K T H vs ds → RpA K T H (vs.drop n) (ds.drop n)
  | _, _, 0, h => h
  | [], _, n + 1, h => by cases h; exact .nil
  | d :: ds, _, n + 1, h => by cases h with | cons q r => exact r.drop n
theorem RpA.set {d : D} {v : V} (r : Rp K T H v d) : ∀ {ds : List D} {vs : List V} (n : Nat), RpA K T H vs ds → RpA K T H (vs.set n v) (ds.set n d)
  | [], _, n, h => by cases h; exact .nil
  | _ :: ds, _, 0, h => by cases h with | cons q t => exact .cons r t
  | _ :: ds, _, n + 1, h => by cases h with | cons q t => exact .cons q (RpA.set r n t)
theorem RpA.reverse : ∀ {ds : List D} {vs : List V}, RpA K T H vs ds → RpA K T H vs.reverse ds.reverse
  | [], _, h => by cases h; exact .nil
  | d :: ds, _, h => by
    cases h with
    | cons q r =>
      rw [List.reverse_cons, List.reverse_cons]
      exact r.reverse.append (.cons q .nil)
theorem RpA.ints : ∀ {ns : List Int} {vs : List V}, RpA K T H vs (ns.map D.int) → vs = ns.map V.int
  | [], _, h => by cases h; rfl
  | n :: ns, _, h => by
    cases h with
    | cons q r =>
      cases q
      rw [RpA.ints r]
      rfl
theorem RpA.of_ints : ∀ (ns : List Int), RpA K T H (ns.map V.int) (ns.map D.int)
  | [] => .nil
  | n :: ns => .cons (.int n) (RpA.of_ints ns)
theorem RpA.bls : ∀ {ns : List Bool} {vs : List V}, RpA K T H vs (ns.map D.bl) → vs = ns.map V.bl
  | [], _, h => by cases h; rfl
  | n :: ns, _, h => by
    cases h with
    | cons q r =>
      cases q
      rw [RpA.bls r]
      rfl
end
def NoT (o : HO) : Prop := ∀ xs, o ≠ .tup xs
/-- what a body runs over: addresses that are not its own (A), the cells (T), the heap at its entry (He) -/
structure Ct where
  A : Addr → Prop
  T : List Addr
  He : Hp
/-- the heap as the slots' values may lean on it -/
noncomputable def vw (c : Ct) (os : List (Option Addr)) (H : Hp) : Hp := fun b => open Classical in if (c.A b ∨ b ∈ c.T ∨ some b ∈ os) then none else H b
theorem vw_some {c : Ct} {os : List (Option Addr)} {H : Hp} {b : Addr} {o : HO} : vw c os H b = some o ↔ (H b = some o ∧ ¬ c.A b ∧ b ∉ c.T ∧ some b ∉ os) := by
  unfold vw
  by_cases h : (c.A b ∨ b ∈ c.T ∨ some b ∈ os)
  · rw [if_pos h]
    constructor
    · intro z; cases z
    · rintro ⟨_, h1, h2, h3⟩
      rcases h with h | h | h
      · exact absurd h h1
      · exact absurd h h2
      · exact absurd h h3
  · rw [if_neg h]
    constructor
    · intro z
      exact ⟨z, fun q => h (.inl q), fun q => h (.inr (.inl q)), fun q => h (.inr (.inr q))⟩
    · exact fun z => z.1
theorem vw_le {c : Ct} {os : List (Option Addr)} {H : Hp} : Exts (vw c os H) H := fun _ _ h => (vw_some.mp h).1
theorem vw_mono {c : Ct} {os : List (Option Addr)} {H H' : Hp} (e : Exts H H') : Exts (vw c os H) (vw c os H') := fun _ _ h => by
  obtain ⟨h1, h2⟩ := vw_some.mp h
  exact vw_some.mpr ⟨e _ _ h1, h2⟩
theorem vw_os {c : Ct} {os os' : List (Option Addr)} {H : Hp} (e : ∀ a, some a ∈ os' → some a ∈ os) : Exts (vw c os H) (vw c os' H) := fun _ _ h => by
  obtain ⟨h1, h2, h3, h4⟩ := vw_some.mp h
  exact vw_some.mpr ⟨h1, h2, h3, fun q => h4 (e _ q)⟩
/-- an own container at a -/
inductive OwAt (K : PySem.W.Frag) (T : List Addr) (Hv H : Hp) (a : Addr) : D → Prop
  | lst {xs : List V} {ds : List D} : H a = some (.lst xs) → RpA K T Hv xs ds → OwAt K T Hv H a (.lst ds)
  | dk {kvs : List (Key × V)} {ks : List Key} {ds : List D} : H a = some (.dK kvs) → kvs.map Prod.fst = ks → RpA K T Hv (kvs.map Prod.snd) ds → OwAt K T Hv H a (.dk ks ds)
  | dt {kvs : List (List Key × V)} {ks : List (List Key)} {ds : List D} : H a = some (.dT kvs) → kvs.map Prod.fst = ks → RpA K T Hv (kvs.map Prod.snd) ds → OwAt K T Hv H a (.dt ks ds)
theorem OwAt.mono {K : PySem.W.Frag} {T : List Addr} {Hv Hv' H H' : Hp} {a : Addr} {d : D} (e : Exts Hv Hv') (k : ∀ o, H a = some o → H' a = some o) : OwAt K T Hv H a d → OwAt K T Hv' H' a d
  | .lst h r => .lst (k _ h) (r.mono e)
  | .dk h z r => .dk (k _ h) z (r.mono e)
  | .dt h z r => .dt (k _ h) z (r.mono e)
theorem OwAt.there {K : PySem.W.Frag} {T : List Addr} {Hv H : Hp} {a : Addr} {d : D} : OwAt K T Hv H a d → ∃ o, H a = some o
  | .lst h _ => ⟨_, h⟩
  | .dk h _ _ => ⟨_, h⟩
  | .dt h _ _ => ⟨_, h⟩
theorem OwAt.thereN {K : PySem.W.Frag} {T : List Addr} {Hv H : Hp} {a : Addr} {d : D} : OwAt K T Hv H a d → ∃ o, H a = some o ∧ NoT o
  | .lst h _ => ⟨_, h, fun _ q => by cases q⟩
  | .dk h _ _ => ⟨_, h, fun _ q => by cases q⟩
  | .dt h _ _ => ⟨_, h, fun _ q => by cases q⟩
/-- it stands as a value where it may be seen -/
theorem OwAt.rp {K : PySem.W.Frag} {T : List Addr} {Hv Hv' H : Hp} {a : Addr} {d : D} (e : Exts Hv Hv') (k : ∀ o, H a = some o → Hv' a = some o) : OwAt K T Hv H a d → Rp K T Hv' (.ref a) d
  | .lst h r => .lst (k _ h) (r.mono e)
  | .dk h z r => .dk (.inl (k _ h)) z (r.mono e)
  | .dt h z r => .dt (.inl (k _ h)) z (r.mono e)
/-- a slot's word -/
def SlAt (K : PySem.W.Frag) (T : List Addr) (Hv H : Hp) : Option Addr → Sl → Option V → Prop
  | none, .no, _ => True
  | none, .fz d, some v => Rp K T Hv v d
  | some a, .ow d, some v => v = .ref a ∧ OwAt K T Hv H a d
  | _, _, _ => False
structure Rl (K : PySem.W.Frag) (c : Ct) (os : List (Option Addr)) (ρ : Env) (μ : Store) (σ : L2.St) (H : Hp) : Prop where
  lo : os.length = σ.length
  lr : ρ.length = σ.length
  sl : ∀ (i : Nat) (o : Option Addr) (s : Sl) (x : Option V), os[i]? = some o → ρ[i]? = some s → σ[i]? = some x → SlAt K c.T (vw c os H) H o s x
  inj : ∀ (i j : Nat) (a : Addr), os[i]? = some (some a) → os[j]? = some (some a) → i = j
  own : ∀ a, some a ∈ os → a ∉ c.T ∧ ¬ c.A a ∧ c.He a = none
  tA : ∀ a, a ∈ c.T → ¬ c.A a
  tn : c.T.Nodup
  sm : μ.length = c.T.length
  st : ∀ (n : Nat) (a : Addr) (ns : List Int), c.T[n]? = some a → μ[n]? = some ns → H a = some (.lst (ns.map V.int))
  keep : ∀ b o, c.He b = some o → b ∉ c.T → H b = some o
  dom : ∀ b, c.A b → ∃ o, H b = some o ∧ NoT o
section
variable {K : PySem.W.Frag} {c : Ct} {os : List (Option Addr)} {ρ : Env} {μ : Store} {σ : L2.St} {H H' : Hp}
theorem Rl.ownSomeN (r : Rl K c os ρ μ σ H) {a : Addr} (h : some a ∈ os) : ∃ o, H a = some o ∧ NoT o := by
  obtain ⟨i, hi⟩ := List.getElem?_of_mem h
  have hlt : i < os.length := (List.getElem?_eq_some_iff.mp hi).1
  have h1 : i < ρ.length := by rw [r.lr, ← r.lo]; exact hlt
  have h2 : i < σ.length := by rw [← r.lo]; exact hlt
  have q := r.sl i _ _ _ hi (List.getElem?_eq_getElem h1) (List.getElem?_eq_getElem h2)
  cases e1 : ρ[i] with
  | no => rw [e1] at q; simp [SlAt] at q
  | fz d => rw [e1] at q; simp [SlAt] at q
  | ow d =>
    cases e2 : σ[i] with
    | none => rw [e1, e2] at q; simp [SlAt] at q
    | some v => rw [e1, e2] at q; exact q.2.thereN
theorem Rl.ownSome (r : Rl K c os ρ μ σ H) {a : Addr} (h : some a ∈ os) : ∃ o, H a = some o := let ⟨o, e, _⟩ := r.ownSomeN h; ⟨o, e⟩
theorem Rl.cellSome (r : Rl K c os ρ μ σ H) {a : Addr} (h : a ∈ c.T) : ∃ o, H a = some o := by
  obtain ⟨i, hi⟩ := List.getElem?_of_mem h
  have hlt : i < c.T.length := (List.getElem?_eq_some_iff.mp hi).1
  have h1 : i < μ.length := by rw [r.sm]; exact hlt
  exact ⟨_, r.st i a _ hi (List.getElem?_eq_getElem h1)⟩
/-- a new address is none of ours -/
theorem Rl.fresh (r : Rl K c os ρ μ σ H) {p : Addr} (h : H p = none) : ¬ c.A p ∧ p ∉ c.T ∧ some p ∉ os ∧ (c.He p = none) := by
  refine ⟨fun q => ?_, fun q => ?_, fun q => ?_, ?_⟩
  · obtain ⟨o, e, _⟩ := r.dom p q; rw [h] at e; cases e
  · obtain ⟨o, e⟩ := r.cellSome q; rw [h] at e; cases e
  · obtain ⟨o, e⟩ := r.ownSome q; rw [h] at e; cases e
  · cases e : c.He p with
    | none => rfl
    | some o =>
      have nt : p ∉ c.T := fun q => by obtain ⟨o, e⟩ := r.cellSome q; rw [h] at e; cases e
      have := r.keep p o e nt
      rw [h] at this; cases this
/-- all that was stands -/
theorem Rl.grow (r : Rl K c os ρ μ σ H) (e : Exts H H') : Rl K c os ρ μ σ H' where
  lo := r.lo
  lr := r.lr
  sl := fun i o s x h1 h2 h3 => by
    have q := r.sl i o s x h1 h2 h3
    unfold SlAt at q ⊢
    split at q
    · trivial
    · exact q.mono (vw_mono e)
    · exact ⟨q.1, q.2.mono (vw_mono e) (fun o h => e _ _ h)⟩
    · exact q.elim
  inj := r.inj
  own := r.own
  tA := r.tA
  tn := r.tn
  sm := r.sm
  st := fun n a ds h1 h2 => e _ _ (r.st n a ds h1 h2)
  keep := fun b o h1 h2 => e _ _ (r.keep b o h1 h2)
  dom := fun b h => by
    obtain ⟨o, q, n⟩ := r.dom b h
    exact ⟨o, e _ _ q, n⟩
theorem Rl.new (r : Rl K c os ρ μ σ H) {p : Addr} {o : HO} (h : H p = none) : Rl K c os ρ μ σ (upd H p o) := r.grow (Exts.new h)
theorem Rl.seen (r : Rl K c os ρ μ σ H) {p : Addr} {o : HO} (h : H p = none) : vw c os (upd H p o) p = some o := by
  obtain ⟨h1, h2, h3, _⟩ := r.fresh h
  exact vw_some.mpr ⟨upd_same, h1, h2, h3⟩
theorem Rl.newX (r : Rl K c os ρ μ σ H) {p : Addr} {o : HO} (h : H p = none) : Exts (vw c os H) (vw c os (upd H p o)) := vw_mono (Exts.new h)
/-- what stood at the entry, or when the loop began, is seen -/
theorem Rl.seesOld (r : Rl K c os ρ μ σ H) {G : Hp} (h : Exts G c.He) (nT : ∀ b o, G b = some o → b ∉ c.T ∧ ¬ c.A b) : Exts G (vw c os H) := fun b o e => by
  have h1 := h b o e
  obtain ⟨n1, n2⟩ := nT b o e
  refine vw_some.mpr ⟨r.keep b o h1 n1, n2, n1, fun q => ?_⟩
  have := (r.own b q).2.2
  rw [h1] at this; cases this
/-- a value that stands, read -/
theorem Rl.get (r : Rl K c os ρ μ σ H) {i : Nat} {d : D} (h : ρ[i]? = some (.fz d)) : ∃ v, σ[i]? = some (some v) ∧ Rp K c.T (vw c os H) v d ∧ os[i]? = some none := by
  have h0 : i < ρ.length := (List.getElem?_eq_some_iff.mp h).1
  have h1 : i < os.length := by rw [r.lo, ← r.lr]; exact h0
  have h2 : i < σ.length := by rw [← r.lr]; exact h0
  have q := r.sl i _ _ _ (List.getElem?_eq_getElem h1) h (List.getElem?_eq_getElem h2)
  cases e1 : os[i] with
  | some a => rw [e1] at q; simp [SlAt] at q
  | none =>
    cases e2 : σ[i] with
    | none => rw [e1, e2] at q; simp [SlAt] at q
    | some v =>
      rw [e1, e2] at q
      exact ⟨v, by rw [List.getElem?_eq_getElem h2, e2], q, by rw [List.getElem?_eq_getElem h1, e1]⟩
theorem Rl.getOw (r : Rl K c os ρ μ σ H) {i : Nat} {d : D} (h : ρ[i]? = some (.ow d)) : ∃ a, σ[i]? = some (some (.ref a)) ∧ os[i]? = some (some a) ∧ OwAt K c.T (vw c os H) H a d := by
  have h0 : i < ρ.length := (List.getElem?_eq_some_iff.mp h).1
  have h1 : i < os.length := by rw [r.lo, ← r.lr]; exact h0
  have h2 : i < σ.length := by rw [← r.lr]; exact h0
  have q := r.sl i _ _ _ (List.getElem?_eq_getElem h1) h (List.getElem?_eq_getElem h2)
  cases e1 : os[i] with
  | none => rw [e1] at q; cases e2 : σ[i] <;> rw [e2] at q <;> simp [SlAt] at q
  | some a =>
    cases e2 : σ[i] with
    | none => rw [e1, e2] at q; simp [SlAt] at q
    | some v =>
      rw [e1, e2] at q
      obtain ⟨q1, q2⟩ := q
      subst q1
      exact ⟨a, by rw [List.getElem?_eq_getElem h2, e2], by rw [List.getElem?_eq_getElem h1, e1], q2⟩
theorem mem_set_none {os : List (Option Addr)} {i : Nat} {a : Addr} (h : some a ∈ os.set i none) : some a ∈ os := by
  rcases List.mem_or_eq_of_mem_set h with h | h
  · exact h
  · cases h
/-- slot i takes a value that stands -/
theorem Rl.set (r : Rl K c os ρ μ σ H) {i : Nat} {d : D} {v : V} (hv : Rp K c.T (vw c os H) v d) : Rl K c (os.set i none) (ρ.set i (.fz d)) μ (σ.set i (some v)) H := by
  have up : Exts (vw c os H) (vw c (os.set i none) H) := vw_os fun a h => mem_set_none h
  refine ⟨by simp [r.lo], by simp [r.lr], fun j o s x h1 h2 h3 => ?_, fun j k a h1 h2 => ?_, fun a h => r.own a (mem_set_none h), r.tA, r.tn, r.sm, r.st, r.keep, r.dom⟩
  · by_cases hj : i = j
    · subst hj
      have l1 : i < os.length := by have := (List.getElem?_eq_some_iff.mp h1).1; simpa using this
      have l2 : i < ρ.length := by have := (List.getElem?_eq_some_iff.mp h2).1; simpa using this
      have l3 : i < σ.length := by have := (List.getElem?_eq_some_iff.mp h3).1; simpa using this
      rw [List.getElem?_set_self l1] at h1
      rw [List.getElem?_set_self l2] at h2
      rw [List.getElem?_set_self l3] at h3
      cases h1; cases h2; cases h3
      exact hv.mono up
    · rw [List.getElem?_set_ne hj] at h1 h2 h3
      have q := r.sl j o s x h1 h2 h3
      unfold SlAt at q ⊢
      split at q
      · trivial
      · exact q.mono up
      · exact ⟨q.1, q.2.mono up (fun o h => h)⟩
      · exact q.elim
  · have g : ∀ m, (os.set i none)[m]? = some (some a) → os[m]? = some (some a) := fun m hm => by
      by_cases e : i = m
      · subst e
        have l1 : i < os.length := by have := (List.getElem?_eq_some_iff.mp hm).1; simpa using this
        rw [List.getElem?_set_self l1] at hm; cases hm
      · rw [List.getElem?_set_ne e] at hm; exact hm
    exact r.inj j k a (g j h1) (g k h2)
/-- slot i is forgotten -/
theorem Rl.drop (r : Rl K c os ρ μ σ H) {i : Nat} (v : Option V) : Rl K c (os.set i none) (ρ.set i .no) μ (σ.set i v) H := by
  have up : Exts (vw c os H) (vw c (os.set i none) H) := vw_os fun a h => mem_set_none h
  refine ⟨by simp [r.lo], by simp [r.lr], fun j o s x h1 h2 h3 => ?_, fun j k a h1 h2 => ?_, fun a h => r.own a (mem_set_none h), r.tA, r.tn, r.sm, r.st, r.keep, r.dom⟩
  · by_cases hj : i = j
    · subst hj
      have l1 : i < os.length := by have := (List.getElem?_eq_some_iff.mp h1).1; simpa using this
      have l2 : i < ρ.length := by have := (List.getElem?_eq_some_iff.mp h2).1; simpa using this
      rw [List.getElem?_set_self l1] at h1
      rw [List.getElem?_set_self l2] at h2
      cases h1; cases h2
      trivial
    · rw [List.getElem?_set_ne hj] at h1 h2 h3
      have q := r.sl j o s x h1 h2 h3
      unfold SlAt at q ⊢
      split at q
      · trivial
      · exact q.mono up
      · exact ⟨q.1, q.2.mono up (fun o h => h)⟩
      · exact q.elim
  · have g : ∀ m, (os.set i none)[m]? = some (some a) → os[m]? = some (some a) := fun m hm => by
      by_cases e : i = m
      · subst e
        have l1 : i < os.length := by have := (List.getElem?_eq_some_iff.mp hm).1; simpa using this
        rw [List.getElem?_set_self l1] at hm; cases hm
      · rw [List.getElem?_set_ne e] at hm; exact hm
    exact r.inj j k a (g j h1) (g k h2)
end
end DC
set_option Elab.async false
set_option linter.all false
set_option maxRecDepth 100000
set_option maxHeartbeats 2000000
/-! DC: outcomes, readings by denotations, the base rules. -/
namespace DC
open PySem PySem.Spec PyProof.Rows L2
structure Exn where
  k : Nat
  pay : Option (Str × D)
inductive Res (α : Type) where
  | ok (a : α) (μ : Store)
  | exc (x : Exn) (μ : Store)
  | fail
abbrev XD := Env → Store → Res D
abbrev XB := Env → Store → Res Bool
abbrev XL := Env → Store → Res (List D)
def Res.bind {α β : Type} (r : Res α) (k : α → Store → Res β) : Res β := match r with
  | .ok a μ => k a μ
  | .exc x μ => .exc x μ
  | .fail => .fail
def Res.ofO {α : Type} (o : Option α) (μ : Store) : Res α := match o with
  | some a => .ok a μ
  | none => .fail
def Out {α : Type} (r : Res α) (ok : α → Store → Prop) (ex : Exn → Store → Prop) : Prop := match r with
  | .ok a μ => ok a μ
  | .exc x μ => ex x μ
  | .fail => False
theorem Out.bind {α β : Type} {r : Res α} {k : α → Store → Res β} {ok : β → Store → Prop} {ex : Exn → Store → Prop} (h : Out (r.bind k) ok ex) : Out r (fun a μ => Out (k a μ) ok ex) ex := by
  cases r with
  | ok a μ => exact h
  | exc x μ => exact h
  | fail => exact h
theorem Out.imp {α : Type} {r : Res α} {ok ok' : α → Store → Prop} {ex ex' : Exn → Store → Prop} (h : Out r ok ex) (h1 : ∀ a μ, ok a μ → ok' a μ) (h2 : ∀ x μ, ex x μ → ex' x μ) : Out r ok' ex' := by
  cases r with
  | ok a μ => exact h1 _ _ h
  | exc x μ => exact h2 _ _ h
  | fail => exact h
theorem Out.ofO {α : Type} {o : Option α} {μ : Store} {ok : α → Store → Prop} {ex : Exn → Store → Prop} (h : Out (Res.ofO o μ) ok ex) : ∃ a, o = some a ∧ ok a μ := by
  cases o with
  | some a => exact ⟨a, rfl, h⟩
  | none => exact False.elim h
/-- all but the cells stands -/
def Kp (c : Ct) (H H' : Hp) : Prop := ∀ b o, H b = some o → b ∉ c.T → H' b = some o
theorem Kp.refl (c : Ct) (H : Hp) : Kp c H H := fun _ _ h _ => h
theorem Kp.trans {c : Ct} {H H1 H2 : Hp} (a : Kp c H H1) (b : Kp c H1 H2) : Kp c H H2 := fun x o h n => b x o (a x o h n) n
theorem Kp.vw {c : Ct} {os : List (Option Addr)} {H H' : Hp} (k : Kp c H H') : Exts (vw c os H) (vw c os H') := fun b o h => by
  obtain ⟨h1, h2, h3, h4⟩ := vw_some.mp h
  exact vw_some.mpr ⟨k b o h1 h3, h2, h3, h4⟩
theorem Kp.nn {c : Ct} {H H' : Hp} {a : Addr} (k : Kp c H H') (n : H' a = none) (t : a ∉ c.T) : H a = none := by
  cases e : H a with
  | none => rfl
  | some o => rw [k a o e t] at n; cases n
theorem Kp.new {c : Ct} {H : Hp} {a : Addr} {o : HO} (n : H a = none) : Kp c H (upd H a o) := fun b u h _ => by
  rw [upd_ne (ne_of_none h n)]; exact h
/-- how an exception lies: its class, its field -/
def ExAt (K : PySem.W.Frag) (cl : Nat → Addr) (c : Ct) (os : List (Option Addr)) (x : Exn) (e : Value) (dx : Option Addr) (H : Hp) : Prop :=
  e = .ref (cl x.k) ∧ match x.pay with
    | none => dx = none
    | some (f, d) => ∃ a v, dx = some a ∧ H a = some (.xd [(f, v)]) ∧ Rp K c.T (vw c os H) v d
def VOk (K : PySem.W.Frag) (c : Ct) (os : List (Option Addr)) (ρ : Env) (σ : L2.St) (H : Hp) (Q : VK) (d : D) (μ : Store) : Prop :=
  ∀ v H', Rl K c os ρ μ σ H' → Kp c H H' → Rp K c.T (vw c os H') v d → Q v H'
def EOk (K : PySem.W.Frag) (cl : Nat → Addr) (W : WX) (c : Ct) (os : List (Option Addr)) (ρ : Env) (σ : L2.St) (H : Hp) (x : Exn) (μ : Store) : Prop :=
  ∀ e dx H', Rl K c os ρ μ σ H' → Kp c H H' → ExAt K cl c os x e dx H' → W e dx σ H'
section
variable {K : PySem.W.Frag} {cl : Nat → Addr} {W : WX} {c : Ct} {os : List (Option Addr)} {ρ : Env} {μ : Store} {σ : L2.St} {H H' : Hp} {Q : VK} {d : D} {x : Exn}
theorem VOk.mono (e : Kp c H H') (h : VOk K c os ρ σ H Q d μ) : VOk K c os ρ σ H' Q d μ := fun v H2 r e2 p => h v H2 r (e.trans e2) p
theorem EOk.mono (e : Kp c H H') (h : EOk K cl W c os ρ σ H x μ) : EOk K cl W c os ρ σ H' x μ := fun v dx H2 r e2 p => h v dx H2 r (e.trans e2) p
theorem VOk.same (h : VOk K c os ρ σ H Q d μ) (r : Rl K c os ρ μ σ H) {v : V} (p : Rp K c.T (vw c os H) v d) : Q v H := h v H r (Kp.refl _ _) p
/-- a new tuple -/
theorem VOk.newT {ds : List D} {xs : List V} (h : VOk K c os ρ σ H Q (.tup ds) μ) (r : Rl K c os ρ μ σ H) (p : RpA K c.T (vw c os H) xs ds) {a : Addr} (n : H a = none) : Q (.ref a) (upd H a (.tup xs)) :=
  h _ _ (r.new n) (Kp.new n) (.tup (.inl (.inl (r.seen n))) (p.mono (r.newX n)))
theorem VOk.newL {ds : List D} {xs : List V} (h : VOk K c os ρ σ H Q (.lst ds) μ) (r : Rl K c os ρ μ σ H) (p : RpA K c.T (vw c os H) xs ds) {a : Addr} (n : H a = none) : Q (.ref a) (upd H a (.lst xs)) :=
  h _ _ (r.new n) (Kp.new n) (.lst (r.seen n) (p.mono (r.newX n)))
end
/-! ### new containers -/
def Ct.av (c : Ct) (a : Addr) : Ct := { c with A := fun b => c.A b ∨ b = a }
structure Fr (K : PySem.W.Frag) (c : Ct) (os : List (Option Addr)) (ρ : Env) (μ : Store) (σ : L2.St) (H : Hp) (a : Addr) (d : D) : Prop where
  rl : Rl K (c.av a) os ρ μ σ H
  ow : OwAt K c.T (vw (c.av a) os H) H a d
  nA : ¬ c.A a
  nT : a ∉ c.T
  no : some a ∉ os
  he : c.He a = none
section
variable {K : PySem.W.Frag} {c c' : Ct} {os : List (Option Addr)} {ρ : Env} {μ : Store} {σ : L2.St} {H H' : Hp} {a : Addr} {d : D}
theorem Rl.move (r : Rl K c os ρ μ σ H) (eT : c'.T = c.T) (e : Exts (vw c os H) (vw c' os H')) (ow : ∀ b o, some b ∈ os → H b = some o → H' b = some o) (ce : ∀ b o, b ∈ c.T → H b = some o → H' b = some o)
    (own' : ∀ b, some b ∈ os → ¬ c'.A b ∧ c'.He b = none) (tA' : ∀ b, b ∈ c.T → ¬ c'.A b) (keep' : ∀ b o, c'.He b = some o → b ∉ c.T → H' b = some o) (dom' : ∀ b, c'.A b → ∃ o, H' b = some o ∧ NoT o) : Rl K c' os ρ μ σ H' where
  lo := r.lo
  lr := r.lr
  sl := fun i o s x h1 h2 h3 => by
    have q := r.sl i o s x h1 h2 h3
    have hm : ∀ b, o = some b → some b ∈ os := fun b eb => by rw [← eb]; exact List.mem_of_getElem? h1
    rw [eT]
    unfold SlAt at q ⊢
    split at q
    · trivial
    · exact q.mono e
    · exact ⟨q.1, q.2.mono e (fun o h => ow _ _ (hm _ rfl) h)⟩
    · exact q.elim
  inj := r.inj
  own := fun b h => by rw [eT]; exact ⟨(r.own b h).1, own' b h⟩
  tA := fun b h => tA' b (by rw [← eT]; exact h)
  tn := by rw [eT]; exact r.tn
  sm := by rw [eT]; exact r.sm
  st := fun n a ds h1 h2 => by
    rw [eT] at h1
    exact ce _ _ (List.mem_of_getElem? h1) (r.st n a ds h1 h2)
  keep := fun b o h1 h2 => keep' b o h1 (by rw [← eT]; exact h2)
  dom := dom'
theorem vw_av : Exts (vw (c.av a) os H) (vw c os H) := fun b o h => by
  obtain ⟨h1, h2, h3, h4⟩ := vw_some.mp h
  exact vw_some.mpr ⟨h1, fun q => h2 (.inl q), h3, h4⟩
theorem Fr.out (f : Fr K c os ρ μ σ H a d) : Rl K c os ρ μ σ H :=
  f.rl.move rfl vw_av (fun _ _ _ h => h) (fun _ _ _ h => h) (fun b h => ⟨fun q => (f.rl.own b h).2.1 (.inl q), (f.rl.own b h).2.2⟩) (fun b h q => f.rl.tA b h (.inl q)) f.rl.keep (fun b h => f.rl.dom b (.inl h))
theorem Fr.rp (f : Fr K c os ρ μ σ H a d) : Rp K c.T (vw c os H) (.ref a) d := f.ow.rp vw_av fun o h => vw_some.mpr ⟨h, f.nA, f.nT, f.no⟩
theorem Rl.av (r : Rl K c os ρ μ σ H) {o : HO} (n : H a = none) (nt : NoT o := by intro _ q; cases q) : Rl K (c.av a) os ρ μ σ (upd H a o) ∧ Exts (vw c os H) (vw (c.av a) os (upd H a o)) := by
  obtain ⟨h1, h2, h3, h4⟩ := r.fresh n
  have e : Exts (vw c os H) (vw (c.av a) os (upd H a o)) := fun b u h => by
    obtain ⟨q1, q2, q3, q4⟩ := vw_some.mp h
    have nb : b ≠ a := ne_of_none q1 n
    exact vw_some.mpr ⟨by rw [upd_ne nb]; exact q1, fun q => q.elim q2 nb, q3, q4⟩
  refine ⟨r.move rfl e (fun b u hb h => by rw [upd_ne (ne_of_none h n)]; exact h) (fun b u hb h => by rw [upd_ne (ne_of_none h n)]; exact h) (fun b hb => ⟨fun q => q.elim (r.own b hb).2.1 fun z => h3 (by rw [← z]; exact hb), (r.own b hb).2.2⟩)
    (fun b hb q => q.elim (r.tA b hb) fun z => h2 (by rw [← z]; exact hb)) (fun b u q1 q2 => ?_) (fun b q => ?_), e⟩
  · have q := r.keep b u q1 q2
    rw [upd_ne (ne_of_none q n)]; exact q
  · rcases q with q | q
    · obtain ⟨u, z, nu⟩ := r.dom b q
      exact ⟨u, by rw [upd_ne (ne_of_none z n)]; exact z, nu⟩
    · exact ⟨o, by rw [q, upd_same], nt⟩
theorem Rl.frL (r : Rl K c os ρ μ σ H) {xs : List V} {ds : List D} (p : RpA K c.T (vw c os H) xs ds) (n : H a = none) : Fr K c os ρ μ σ (upd H a (.lst xs)) a (.lst ds) ∧ Kp c H (upd H a (.lst xs)) := by
  obtain ⟨h1, h2, h3, h4⟩ := r.fresh n
  obtain ⟨q, e⟩ := r.av (o := .lst xs) n
  exact ⟨⟨q, .lst upd_same (p.mono e), h1, h2, h3, h4⟩, Kp.new n⟩
theorem mem_set_some {os : List (Option Addr)} {i : Nat} {a b : Addr} (h : some b ∈ os.set i (some a)) : some b ∈ os ∨ b = a := by
  rcases List.mem_or_eq_of_mem_set h with h | h
  · exact .inl h
  · exact .inr (Option.some.inj h)
/-- slot i takes the new container -/
theorem Fr.put (f : Fr K c os ρ μ σ H a d) (i : Nat) : Rl K c (os.set i (some a)) (ρ.set i (.ow d)) μ (σ.set i (some (.ref a))) H := by
  have r := f.rl
  have up : Exts (vw (c.av a) os H) (vw c (os.set i (some a)) H) := fun b o h => by
    obtain ⟨h1, h2, h3, h4⟩ := vw_some.mp h
    exact vw_some.mpr ⟨h1, fun q => h2 (.inl q), h3, fun q => (mem_set_some q).elim h4 fun z => h2 (.inr z)⟩
  refine ⟨by simp [r.lo], by simp [r.lr], fun j o s x h1 h2 h3 => ?_, fun j k b h1 h2 => ?_, fun b h => ?_, fun b h q => r.tA b h (.inl q), r.tn, r.sm, r.st, r.keep, fun b h => r.dom b (.inl h)⟩
  · by_cases hj : i = j
    · subst hj
      have l1 : i < os.length := by have := (List.getElem?_eq_some_iff.mp h1).1; simpa using this
      have l2 : i < ρ.length := by have := (List.getElem?_eq_some_iff.mp h2).1; simpa using this
      have l3 : i < σ.length := by have := (List.getElem?_eq_some_iff.mp h3).1; simpa using this
      rw [List.getElem?_set_self l1] at h1
      rw [List.getElem?_set_self l2] at h2
      rw [List.getElem?_set_self l3] at h3
      cases h1; cases h2; cases h3
      exact ⟨rfl, f.ow.mono up fun _ h => h⟩
    · rw [List.getElem?_set_ne hj] at h1 h2 h3
      have q := r.sl j o s x h1 h2 h3
      unfold SlAt at q ⊢
      split at q
      · trivial
      · exact q.mono up
      · exact ⟨q.1, q.2.mono up (fun o h => h)⟩
      · exact q.elim
  · have g : ∀ m, (os.set i (some a))[m]? = some (some b) → (m = i ∧ b = a) ∨ os[m]? = some (some b) := fun m hm => by
      by_cases e : i = m
      · subst e
        have l1 : i < os.length := by have := (List.getElem?_eq_some_iff.mp hm).1; simpa using this
        rw [List.getElem?_set_self l1] at hm; cases hm
        exact .inl ⟨rfl, rfl⟩
      · rw [List.getElem?_set_ne e] at hm; exact .inr hm
    have na : ∀ m, os[m]? = some (some a) → False := fun m hm => f.no (List.mem_of_getElem? hm)
    rcases g j h1 with ⟨z1, z2⟩ | z
    · rcases g k h2 with ⟨y1, y2⟩ | y
      · rw [z1, y1]
      · subst z2; exact (na k y).elim
    · rcases g k h2 with ⟨y1, y2⟩ | y
      · subst y2; exact (na j z).elim
      · exact r.inj j k b z y
  · rcases mem_set_some h with z | z
    · exact ⟨(r.own b z).1, fun q => (r.own b z).2.1 (.inl q), (r.own b z).2.2⟩
    · subst z; exact ⟨f.nT, f.nA, f.he⟩
/-- an own container stands as a value from now on -/
theorem Rl.freeze (r : Rl K c os ρ μ σ H) {i : Nat} (h : ρ[i]? = some (.ow d)) : Rl K c (os.set i none) (ρ.set i (.fz d)) μ σ H := by
  obtain ⟨a, h1, h2, h3⟩ := r.getOw h
  have l1 : i < σ.length := (List.getElem?_eq_some_iff.mp h1).1
  have nin : some a ∉ os.set i none := fun q => by
    obtain ⟨j, hj⟩ := List.getElem?_of_mem q
    by_cases e : i = j
    · subst e
      have l2 : i < os.length := by rw [r.lo]; exact l1
      rw [List.getElem?_set_self l2] at hj; cases hj
    · rw [List.getElem?_set_ne e] at hj
      exact e (r.inj i j a h2 hj)
  have hm : some a ∈ os := List.mem_of_getElem? h2
  have up : Exts (vw c os H) (vw c (os.set i none) H) := vw_os fun b hb => mem_set_none hb
  have hp : Rp K c.T (vw c (os.set i none) H) (.ref a) d := h3.rp up fun o ho => vw_some.mpr ⟨ho, (r.own a hm).2.1, (r.own a hm).1, nin⟩
  have q := (r.drop (i := i) (some (.ref a))).set (i := i) hp
  have e1 : (σ.set i (some (V.ref a))).set i (some (V.ref a)) = σ := by
    rw [List.set_set]
    apply List.ext_getElem?
    intro j
    by_cases e : i = j
    · subst e; rw [List.getElem?_set_self l1, h1]
    · rw [List.getElem?_set_ne e]
  have e2 : (ρ.set i Sl.no).set i (.fz d) = ρ.set i (.fz d) := List.set_set ..
  have e3 : (os.set i none).set i none = os.set i none := List.set_set ..
  rw [e1, e2, e3] at q
  exact q
/-- an own container is changed -/
theorem Rl.change (r : Rl K c os ρ μ σ H) {i : Nat} {d' : D} {o : HO} (h1 : σ[i]? = some (some (.ref a))) (h2 : os[i]? = some (some a)) (hn : OwAt K c.T (vw c os H) (upd H a o) a d') : Rl K c os (ρ.set i (.ow d')) μ σ (upd H a o) := by
  have hm : some a ∈ os := List.mem_of_getElem? h2
  have ev : vw c os (upd H a o) = vw c os H := by
    funext b
    unfold vw
    by_cases hb : (c.A b ∨ b ∈ c.T ∨ some b ∈ os)
    · rw [if_pos hb, if_pos hb]
    · rw [if_neg hb, if_neg hb, upd_ne]
      rintro rfl
      exact hb (.inr (.inr hm))
  refine ⟨r.lo, by simp [r.lr], fun j u s x q1 q2 q3 => ?_, r.inj, r.own, r.tA, r.tn, r.sm, fun n b ds q1 q2 => ?_, fun b u q1 q2 => ?_, fun b q => ?_⟩
  · rw [ev]
    by_cases hj : i = j
    · subst hj
      have l2 : i < ρ.length := by have := (List.getElem?_eq_some_iff.mp q2).1; simpa using this
      rw [List.getElem?_set_self l2] at q2
      rw [h2] at q1
      rw [h1] at q3
      cases q1; cases q2; cases q3
      exact ⟨rfl, hn⟩
    · rw [List.getElem?_set_ne hj] at q2
      have q := r.sl j u s x q1 q2 q3
      have hu : ∀ b, u = some b → b ≠ a := fun b eb z => by
        subst eb
        subst z
        exact hj (r.inj i j b h2 q1)
      unfold SlAt at q ⊢
      split at q
      · trivial
      · exact q
      · refine ⟨q.1, q.2.mono (Exts.refl _) (fun w hw => ?_)⟩
        rw [upd_ne (hu _ rfl)]; exact hw
      · exact q.elim
  · have nb : b ≠ a := fun z => by subst z; exact (r.own b hm).1 (List.mem_of_getElem? q1)
    rw [upd_ne nb]; exact r.st n b ds q1 q2
  · have nb : b ≠ a := fun z => by
      subst z
      have := (r.own b hm).2.2
      rw [q1] at this; cases this
    rw [upd_ne nb]
    exact r.keep b u q1 q2
  · obtain ⟨u, z, nu⟩ := r.dom b q
    have nb : b ≠ a := fun z => by subst z; exact (r.own b hm).2.1 q
    exact ⟨u, by rw [upd_ne nb]; exact z, nu⟩
/-- a cell is changed -/
theorem Rl.setCell (r : Rl K c os ρ μ σ H) {n : Nat} {ns : List Int} (h : c.T[n]? = some a) : Rl K c os ρ (μ.set n ns) σ (upd H a (.lst (ns.map V.int))) ∧ Kp c H (upd H a (.lst (ns.map V.int))) := by
  have hm : a ∈ c.T := List.mem_of_getElem? h
  have ev : vw c os (upd H a (.lst (ns.map V.int))) = vw c os H := by
    funext b
    unfold vw
    by_cases hb : (c.A b ∨ b ∈ c.T ∨ some b ∈ os)
    · rw [if_pos hb, if_pos hb]
    · rw [if_neg hb, if_neg hb, upd_ne]
      rintro rfl
      exact hb (.inr (.inl hm))
  refine ⟨⟨r.lo, r.lr, fun j u s x q1 q2 q3 => ?_, r.inj, r.own, r.tA, r.tn, by simp [r.sm], fun m b es q1 q2 => ?_, fun b u q1 q2 => ?_, fun b q => ?_⟩, fun b u h n => by rw [upd_ne (fun z => n (by rw [z]; exact hm))]; exact h⟩
  · rw [ev]
    have q := r.sl j u s x q1 q2 q3
    have hu : ∀ b, u = some b → b ≠ a := fun b eb z => by
      subst eb
      subst z
      exact (r.own b (List.mem_of_getElem? q1)).1 hm
    unfold SlAt at q ⊢
    split at q
    · trivial
    · exact q
    · refine ⟨q.1, q.2.mono (Exts.refl _) (fun w hw => ?_)⟩
      rw [upd_ne (hu _ rfl)]; exact hw
    · exact q.elim
  · by_cases hj : n = m
    · subst hj
      rw [h] at q1; cases q1
      have l2 : n < μ.length := by have := (List.getElem?_eq_some_iff.mp q2).1; simpa using this
      rw [List.getElem?_set_self l2] at q2
      cases q2
      exact upd_same
    · rw [List.getElem?_set_ne hj] at q2
      have q3 := r.st m b es q1 q2
      have nb : b ≠ a := fun z => by
        subst z
        have l1 : n < c.T.length := (List.getElem?_eq_some_iff.mp h).1
        have l2 : m < c.T.length := (List.getElem?_eq_some_iff.mp q1).1
        have e1 := (List.getElem?_eq_some_iff.mp h).2
        have e2 := (List.getElem?_eq_some_iff.mp q1).2
        exact hj ((List.getElem_inj r.tn).mp (e1.trans e2.symm))
      rw [upd_ne nb]; exact q3
  · have nb : b ≠ a := fun z => by subst z; exact q2 hm
    rw [upd_ne nb]
    exact r.keep b u q1 q2
  · obtain ⟨u, z, nu⟩ := r.dom b q
    have nb : b ≠ a := fun z => by subst z; exact r.tA b hm q
    exact ⟨u, by rw [upd_ne nb]; exact z, nu⟩
/-- an own container was lent as a value; it is own again -/
theorem Rl.reown (r : Rl K c os ρ μ σ H) {i : Nat} {μ' : Store} (q : Rl K c (os.set i none) (ρ.set i (.fz d)) μ' σ H') (k : Kp c H H') : Rl K c os ρ μ' σ H' where
  lo := r.lo
  lr := r.lr
  sl := fun j o s x h1 h2 h3 => by
    have z := r.sl j o s x h1 h2 h3
    have hm : ∀ b, o = some b → b ∉ c.T := fun b eb => (r.own b (by rw [← eb]; exact List.mem_of_getElem? h1)).1
    unfold SlAt at z ⊢
    split at z
    · trivial
    · exact z.mono k.vw
    · exact ⟨z.1, z.2.mono k.vw (fun o h => k _ _ h (hm _ rfl))⟩
    · exact z.elim
  inj := r.inj
  own := r.own
  tA := r.tA
  tn := r.tn
  sm := q.sm
  st := q.st
  keep := fun b o h1 h2 => k b o (r.keep b o h1 h2) h2
  dom := fun b h => by
    obtain ⟨o, z, nu⟩ := r.dom b h
    exact ⟨o, k b o z fun y => r.tA b y h, nu⟩
end
end DC
set_option Elab.async false
set_option linter.all false
set_option maxRecDepth 100000
set_option maxHeartbeats 2000000
/-! DC: readings of expressions, tests, arguments; calls of defs. -/
namespace DC
open PySem PySem.Spec PyProof.Rows L2
def FOk (K : PySem.W.Frag) (c : Ct) (os : List (Option Addr)) (ρ : Env) (σ : L2.St) (H : Hp) (Q : VK) (d : D) (μ : Store) : Prop :=
  ∀ a H', Fr K c os ρ μ σ H' a d → Kp c H H' → H a = none → Q (.ref a) H'
theorem FOk.mono {K : PySem.W.Frag} {c : Ct} {os : List (Option Addr)} {ρ : Env} {μ : Store} {σ : L2.St} {H H' : Hp} {Q : VK} {d : D} (e : Kp c H H') (h : FOk K c os ρ σ H Q d μ) : FOk K c os ρ σ H' Q d μ := fun a H2 f e2 n => h a H2 f (e.trans e2) (e.nn n f.nT)
theorem VOk.f {K : PySem.W.Frag} {c : Ct} {os : List (Option Addr)} {ρ : Env} {μ : Store} {σ : L2.St} {H : Hp} {Q : VK} {d : D} (h : VOk K c os ρ σ H Q d μ) : FOk K c os ρ σ H Q d μ := fun a H2 f e2 _ => h _ _ f.out e2 f.rp
theorem FOk.newL {K : PySem.W.Frag} {c : Ct} {os : List (Option Addr)} {ρ : Env} {μ : Store} {σ : L2.St} {H : Hp} {Q : VK} {ds : List D} {xs : List V} (h : FOk K c os ρ σ H Q (.lst ds) μ) (r : Rl K c os ρ μ σ H) (p : RpA K c.T (vw c os H) xs ds) {a : Addr} (n : H a = none) : Q (.ref a) (upd H a (.lst xs)) := by
  obtain ⟨f, e⟩ := r.frL p n
  exact h a _ f e n
/-- the readings -/
def tE (K : PySem.W.Frag) (cl : Nat → Addr) (W : WX) (f : XD) : TE := fun σ H Q => ∃ c os ρ μ, Rl K c os ρ μ σ H ∧ Out (f ρ μ) (VOk K c os ρ σ H Q) (EOk K cl W c os ρ σ H)
def tF (K : PySem.W.Frag) (cl : Nat → Addr) (W : WX) (f : XD) : TE := fun σ H Q => ∃ c os ρ μ, Rl K c os ρ μ σ H ∧ Out (f ρ μ) (FOk K c os ρ σ H Q) (EOk K cl W c os ρ σ H)
def tT (K : PySem.W.Frag) (cl : Nat → Addr) (W : WX) (f : XB) : TT := fun σ H Q => ∃ c os ρ μ, Rl K c os ρ μ σ H ∧ Out (f ρ μ) (fun b μ' => ∀ H', Rl K c os ρ μ' σ H' → Kp c H H' → Q b H') (EOk K cl W c os ρ σ H)
def tL (K : PySem.W.Frag) (cl : Nat → Addr) (W : WX) (f : XL) : TA := fun σ H Q => ∃ c os ρ μ, Rl K c os ρ μ σ H ∧ Out (f ρ μ) (fun ds μ' => ∀ vs H', Rl K c os ρ μ' σ H' → Kp c H H' → RpA K c.T (vw c os H') vs ds → Q vs H') (EOk K cl W c os ρ σ H)
theorem pe_imp {X : Cx} {e : Expr} {t t' : TE} (h : PE X e t) (i : ∀ σ H Q, t' σ H Q → t σ H Q) : PE X e t' := ⟨fun pins s σ H Q I q => h.run pins s σ H Q I (i σ H Q q)⟩
theorem pt_imp {X : Cx} {e : Expr} {t t' : TT} (h : PT X e t) (i : ∀ σ H Q, t' σ H Q → t σ H Q) : PT X e t' := ⟨fun pins s σ H Q I q => h.run pins s σ H Q I (i σ H Q q)⟩
theorem pw_imp {X : Cx} {e : Expr} {t t' : TT} (h : PW X e t) (i : ∀ σ H Q, t' σ H Q → t σ H Q) : PW X e t' := ⟨fun wh pins s σ H Q I q => h.run wh pins s σ H Q I (i σ H Q q)⟩
theorem pa_imp {X : Cx} {es : List Expr} {t t' : TA} (h : PA X es t) (i : ∀ σ H Q, t' σ H Q → t σ H Q) : PA X es t' := ⟨fun pos pins s σ H Q I q => h.run pos pins s σ H Q I (i σ H Q q)⟩
theorem Rp.inv_bl {K : PySem.W.Frag} {T : List Addr} {H : Hp} {v : V} {k : Bool} (h : Rp K T H v (.bl k)) : v = .bl k := by
  cases h; rfl
theorem Rp.inv_int {K : PySem.W.Frag} {T : List Addr} {H : Hp} {v : V} {k : Int} (h : Rp K T H v (.int k)) : v = .int k := by
  cases h; rfl
theorem Rp.inv_str {K : PySem.W.Frag} {T : List Addr} {H : Hp} {v : V} {x : Str} (h : Rp K T H v (.str x)) : v = .str x ∧ strOk x = true := by
  cases h with | str q => exact ⟨rfl, q⟩
theorem Rp.inv_non {K : PySem.W.Frag} {T : List Addr} {H : Hp} {v : V} (h : Rp K T H v .non) : v = .non := by
  cases h; rfl
theorem Rp.inv_tup {K : PySem.W.Frag} {T : List Addr} {H : Hp} {v : V} {ds : List D} (h : Rp K T H v (.tup ds)) : ∃ a xs, v = .ref a ∧ SqT K H a xs ∧ RpA K T H xs ds := by
  cases h with | tup q r => exact ⟨_, _, rfl, q, r⟩
theorem Rp.inv_lst {K : PySem.W.Frag} {T : List Addr} {H : Hp} {v : V} {ds : List D} (h : Rp K T H v (.lst ds)) : ∃ a xs, v = .ref a ∧ H a = some (.lst xs) ∧ RpA K T H xs ds := by
  cases h with | lst q r => exact ⟨_, _, rfl, q, r⟩
theorem Rp.inv_scr {K : PySem.W.Frag} {T : List Addr} {H : Hp} {v : V} {ns : List Int} (h : Rp K T H v (.scr ns)) : ∃ a, v = .ref a ∧ SqL K H a (ns.map V.int) := by
  cases h with | scr q => exact ⟨_, rfl, q⟩
theorem Rp.inv_own {K : PySem.W.Frag} {T : List Addr} {H : Hp} {v : V} {n : Nat} (h : Rp K T H v (.own n)) : ∃ a, v = .ref a ∧ T[n]? = some a := by
  cases h with | own q => exact ⟨_, rfl, q⟩
theorem Rp.inv_dk {K : PySem.W.Frag} {T : List Addr} {H : Hp} {v : V} {ks : List Key} {ds : List D} (h : Rp K T H v (.dk ks ds)) : ∃ a kvs, v = .ref a ∧ Rd H a (.dK kvs) ∧ kvs.map Prod.fst = ks ∧ RpA K T H (kvs.map Prod.snd) ds := by
  cases h with | dk q z r => exact ⟨_, _, rfl, q, z, r⟩
theorem Rp.inv_dt {K : PySem.W.Frag} {T : List Addr} {H : Hp} {v : V} {ks : List (List Key)} {ds : List D} (h : Rp K T H v (.dt ks ds)) : ∃ a kvs, v = .ref a ∧ Rd H a (.dT kvs) ∧ kvs.map Prod.fst = ks ∧ RpA K T H (kvs.map Prod.snd) ds := by
  cases h with | dt q z r => exact ⟨_, _, rfl, q, z, r⟩
/-! ### denotations -/
def xVar (i : Nat) : XD := fun ρ μ => match ρ[i]? with
  | some (.fz d) => .ok d μ
  | _ => .fail
def xC (d : D) : XD := fun _ μ => .ok d μ
def xBin (g : D → D → Option D) (f1 f2 : XD) : XD := fun ρ μ => (f1 ρ μ).bind fun a μ1 => (f2 ρ μ1).bind fun b μ2 => Res.ofO (g a b) μ2
def xUn (g : D → Option D) (f : XD) : XD := fun ρ μ => (f ρ μ).bind fun a μ1 => Res.ofO (g a) μ1
def asB : D → Option Bool
  | .bl b => some b
  | _ => none
def xChain (g g' : D → D → Option D) (f1 f2 f3 : XD) : XD := fun ρ μ => (f1 ρ μ).bind fun a μ1 => (f2 ρ μ1).bind fun b μ2 => (Res.ofO ((g a b).bind asB) μ2).bind fun k μ2 =>
  if k then (f3 ρ μ2).bind fun c μ3 => Res.ofO (g' b c) μ3 else .ok (.bl false) μ2
def xAnd (f1 f2 : XD) : XD := fun ρ μ => (f1 ρ μ).bind fun a μ1 => (Res.ofO (asB a) μ1).bind fun k μ1 => if k then f2 ρ μ1 else .ok (.bl false) μ1
def xOr (f1 f2 : XD) : XD := fun ρ μ => (f1 ρ μ).bind fun a μ1 => (Res.ofO (asB a) μ1).bind fun k μ1 => if k then .ok (.bl true) μ1 else f2 ρ μ1
def xNot (f : XD) : XD := fun ρ μ => (f ρ μ).bind fun a μ1 => (Res.ofO (asB a) μ1).bind fun k μ1 => .ok (.bl (!k)) μ1
def xIf (t : XB) (f1 f2 : XD) : XD := fun ρ μ => (t ρ μ).bind fun k μ1 => if k then f1 ρ μ1 else f2 ρ μ1
def bVal (f : XD) : XB := fun ρ μ => (f ρ μ).bind fun a μ1 => Res.ofO (asB a) μ1
def bAnd (f1 f2 : XB) : XB := fun ρ μ => (f1 ρ μ).bind fun k μ1 => if k then f2 ρ μ1 else .ok false μ1
def bOr (f1 f2 : XB) : XB := fun ρ μ => (f1 ρ μ).bind fun k μ1 => if k then .ok true μ1 else f2 ρ μ1
def bNot (f : XB) : XB := fun ρ μ => (f ρ μ).bind fun k μ1 => .ok (!k) μ1
def lNil : XL := fun _ μ => .ok [] μ
def lCons (f : XD) (fs : XL) : XL := fun ρ μ => (f ρ μ).bind fun d μ1 => (fs ρ μ1).bind fun ds μ2 => .ok (d :: ds) μ2
def lenOk {α : Type} (xs : List α) : Bool := Nat.ble xs.length 1000000
theorem lenOk_le {α : Type} {xs : List α} (h : lenOk xs = true) : xs.length ≤ sizeLine := Nat.le_trans (Nat.le_of_ble_eq_true h) (by rw [sizeLine_eq]; decide)
def xTup (fs : XL) : XD := fun ρ μ => (fs ρ μ).bind fun ds μ1 => if lenOk ds then .ok (.tup ds) μ1 else .fail
def xLst (fs : XL) : XD := fun ρ μ => (fs ρ μ).bind fun ds μ1 => if lenOk ds then .ok (.lst ds) μ1 else .fail
def xCall (g : List D → Store → Res D) (fs : XL) : XD := fun ρ μ => (fs ρ μ).bind fun ds μ1 => g ds μ1
def xCb (g : List D → Option D) (fs : XL) : XD := fun ρ μ => (fs ρ μ).bind fun ds μ1 => Res.ofO (g ds) μ1
section
variable {X : Cx} {cl : Nat → Addr} {W : WX} {a b e : Expr} {f f1 f2 f3 : XD} {pos : Pos}
/-! ### names, constants -/
theorem dVar {i : Nat} {x : Str} {p : Pos} (h : PE X (.Name x p) (tVar i)) : PE X (.Name x p) (tE X.K cl W (xVar i)) := pe_imp h fun σ H Q => by
  rintro ⟨c, os, ρ, μ, r, h⟩
  unfold xVar at h
  split at h
  · rename_i d e
    obtain ⟨v, h1, h2, _⟩ := r.get e
    exact ⟨v, h1, VOk.same h r h2⟩
  · exact False.elim h
theorem dC {v : V} {d : D} (h : PE X e (tC v)) (hp : ∀ T Hv, Rp X.K T Hv v d) : PE X e (tE X.K cl W (xC d)) := pe_imp h fun σ H Q => by
  rintro ⟨c, os, ρ, μ, r, h⟩
  exact VOk.same h r (hp _ _)
theorem dInt {i : Int} {j : Nat} {p : Pos} : PE X (.Constant (.int i) j p) (tE X.K cl W (xC (.int i))) := dC pe_int fun _ _ => .int i
theorem dBl {k : Bool} {j : Nat} {p : Pos} : PE X (.Constant (.bool k) j p) (tE X.K cl W (xC (.bl k))) := dC pe_bl fun _ _ => .bl k
theorem dNon {j : Nat} {p : Pos} : PE X (.Constant .none j p) (tE X.K cl W (xC .non)) := dC pe_non fun _ _ => .non
theorem dStr {x : Str} {j : Nat} {p : Pos} (h : strOk x = true := by decide +kernel) : PE X (.Constant (.str x) j p) (tE X.K cl W (xC (.str x))) := dC pe_str fun _ _ => .str h
theorem dFE {e : Expr} (h : PE X e (tF X.K cl W f)) : PE X e (tE X.K cl W f) := pe_imp h fun σ H Q => by
  rintro ⟨c, os, ρ, μ, r, h⟩
  exact ⟨c, os, ρ, μ, r, h.imp (fun d μ' q => q.f) fun _ _ q => q⟩
/-! ### operators -/
def Op2 (K : PySem.W.Frag) (r : R2) (g : D → D → Option D) : Prop := ∀ {c : Ct} {os : List (Option Addr)} {ρ : Env} {μ : Store} {σ : L2.St} {H : Hp} {x y : V} {d1 d2 d : D} {Q : VK}, Rl K c os ρ μ σ H → Rp K c.T (vw c os H) x d1 → Rp K c.T (vw c os H) y d2 → g d1 d2 = some d → VOk K c os ρ σ H Q d μ → r x y H Q
def Op2F (K : PySem.W.Frag) (r : R2) (g : D → D → Option D) : Prop := ∀ {c : Ct} {os : List (Option Addr)} {ρ : Env} {μ : Store} {σ : L2.St} {H : Hp} {x y : V} {d1 d2 d : D} {Q : VK}, Rl K c os ρ μ σ H → Rp K c.T (vw c os H) x d1 → Rp K c.T (vw c os H) y d2 → g d1 d2 = some d → FOk K c os ρ σ H Q d μ → r x y H Q
theorem Op2F.v {K : PySem.W.Frag} {r : R2} {g : D → D → Option D} (h : Op2F K r g) : Op2 K r g := fun r' p1 p2 e q => h r' p1 p2 e q.f
def Op1 (K : PySem.W.Frag) (r : V → Hp → VK → Prop) (g : D → Option D) : Prop := ∀ {c : Ct} {os : List (Option Addr)} {ρ : Env} {μ : Store} {σ : L2.St} {H : Hp} {x : V} {d1 d : D} {Q : VK}, Rl K c os ρ μ σ H → Rp K c.T (vw c os H) x d1 → g d1 = some d → VOk K c os ρ σ H Q d μ → r x H Q
theorem bin_imp {r : R2} {g : D → D → Option D} (hs : Op2 X.K r g) (σ : L2.St) (H : Hp) (Q : VK) (h : tE X.K cl W (xBin g f1 f2) σ H Q) : tOp r (tE X.K cl W f1) (tE X.K cl W f2) σ H Q := by
  obtain ⟨c, os, ρ, μ, r, h⟩ := h
  refine ⟨c, os, ρ, μ, r, (Out.bind h).imp (fun d1 μ1 h1 => ?_) fun _ _ q => q⟩
  intro v1 H1 r1 e1 p1
  refine ⟨c, os, ρ, μ1, r1, (Out.bind h1).imp (fun d2 μ2 h2 => ?_) fun _ _ q => q.mono e1⟩
  intro v2 H2 r2 e2 p2
  obtain ⟨d, e, h3⟩ := Out.ofO h2
  exact hs r2 (p1.mono e2.vw) p2 e (VOk.mono (e1.trans e2) h3)
theorem binF_imp {r : R2} {g : D → D → Option D} (hs : Op2F X.K r g) (σ : L2.St) (H : Hp) (Q : VK) (h : tF X.K cl W (xBin g f1 f2) σ H Q) : tOp r (tE X.K cl W f1) (tE X.K cl W f2) σ H Q := by
  obtain ⟨c, os, ρ, μ, r, h⟩ := h
  refine ⟨c, os, ρ, μ, r, (Out.bind h).imp (fun d1 μ1 h1 => ?_) fun _ _ q => q⟩
  intro v1 H1 r1 e1 p1
  refine ⟨c, os, ρ, μ1, r1, (Out.bind h1).imp (fun d2 μ2 h2 => ?_) fun _ _ q => q.mono e1⟩
  intro v2 H2 r2 e2 p2
  obtain ⟨d, e, h3⟩ := Out.ofO h2
  exact hs r2 (p1.mono e2.vw) p2 e (FOk.mono (e1.trans e2) h3)
theorem dBin {op : Operator} {r : R2} {g : D → D → Option D} (ho : OpR X (binaryOp op) r) (hs : Op2 X.K r g) (ha : PE X a (tE X.K cl W f1)) (hb : PE X b (tE X.K cl W f2)) : PE X (.BinOp a op b pos) (tE X.K cl W (xBin g f1 f2)) := pe_imp (pe_op ho ha hb) (bin_imp hs)
theorem dBinF {op : Operator} {r : R2} {g : D → D → Option D} (ho : OpR X (binaryOp op) r) (hs : Op2F X.K r g) (ha : PE X a (tE X.K cl W f1)) (hb : PE X b (tE X.K cl W f2)) : PE X (.BinOp a op b pos) (tF X.K cl W (xBin g f1 f2)) := pe_imp (pe_op ho ha hb) (binF_imp hs)
theorem dUn {op : UnaryOp} {r : V → Hp → VK → Prop} {g : D → Option D} (ho : UnR X (unaryOp op) r) (hs : Op1 X.K r g) (ha : PE X a (tE X.K cl W f)) : PE X (.UnaryOp op a pos) (tE X.K cl W (xUn g f)) := pe_imp (pe_un ho ha) fun σ H Q => by
  rintro ⟨c, os, ρ, μ, r, h⟩
  refine ⟨c, os, ρ, μ, r, (Out.bind h).imp (fun d1 μ1 h1 => ?_) fun _ _ q => q⟩
  intro v1 H1 r1 e1 p1
  obtain ⟨d, e, h3⟩ := Out.ofO h1
  exact hs r1 p1 e (VOk.mono e1 h3)
theorem dCmp {op : CmpOp} {r : R2} {g : D → D → Option D} (ho : OpR X (compareOp op) r) (hs : Op2 X.K r g) (ha : PE X a (tE X.K cl W f1)) (hb : PE X b (tE X.K cl W f2)) (hm : behindInMarks op b = false) : PE X (.Compare a [op] [b] pos) (tE X.K cl W (xBin g f1 f2)) := pe_imp (pe_cmpR ho ha hb hm) (bin_imp hs)
theorem val_imp {t : TE} (hi : ∀ σ H Q, tE X.K cl W f σ H Q → t σ H Q) (σ : L2.St) (H : Hp) (Q : Bool → Hp → Prop) (h : tT X.K cl W (bVal f) σ H Q) : t σ H fun x H' => ∃ k, x = .bl k ∧ Q k H' := by
  obtain ⟨c, os, ρ, μ, r, h⟩ := h
  refine hi σ H _ ⟨c, os, ρ, μ, r, (Out.bind h).imp (fun d1 μ1 h1 => ?_) fun _ _ q => q⟩
  intro v1 H1 r1 e1 p1
  obtain ⟨k, e, h3⟩ := Out.ofO h1
  cases d1 with
  | bl kb =>
    have z := p1.inv_bl
    subst z
    cases e
    exact ⟨k, rfl, h3 H1 r1 e1⟩
  | _ => cases e
theorem bCmp {op : CmpOp} {r : R2} {g : D → D → Option D} (ho : OpR X (compareOp op) r) (hs : Op2 X.K r g) (ha : PE X a (tE X.K cl W f1)) (hb : PE X b (tE X.K cl W f2)) (hm : behindInMarks op b = false) : PT X (.Compare a [op] [b] pos) (tT X.K cl W (bVal (xBin g f1 f2))) := pt_imp (pt_cmpR ho ha hb hm) (val_imp (bin_imp hs))
theorem chain_imp {r r' : R2} {g g' : D → D → Option D} (hs : Op2 X.K r g) (hs' : Op2 X.K r' g') (σ : L2.St) (H : Hp) (Q : VK) (h : tE X.K cl W (xChain g g' f1 f2 f3) σ H Q) : tChain r r' (tE X.K cl W f1) (tE X.K cl W f2) (tE X.K cl W f3) σ H Q := by
  obtain ⟨c, os, ρ, μ, r, h⟩ := h
  refine ⟨c, os, ρ, μ, r, (Out.bind h).imp (fun d1 μ1 h1 => ?_) fun _ _ q => q⟩
  intro v1 H1 r1 e1 p1
  refine ⟨c, os, ρ, μ1, r1, (Out.bind h1).imp (fun d2 μ2 h2 => ?_) fun _ _ q => q.mono e1⟩
  intro v2 H2 r2 e2 p2
  obtain ⟨k, e, h3⟩ := Out.ofO (Out.bind h2)
  obtain ⟨dk, ek, ek'⟩ := Option.bind_eq_some_iff.mp e
  refine hs r2 (p1.mono e2.vw) p2 ek (fun v3 H3 r3 e3 p3 => ?_)
  cases dk with
  | bl kk =>
    have z := p3.inv_bl
    subst z
    cases ek'
    refine ⟨k, rfl, ?_⟩
    cases k with
    | true =>
      rw [if_pos rfl]
      rw [if_pos rfl] at h3
      refine ⟨c, os, ρ, μ2, r3, (Out.bind h3).imp (fun d4 μ4 h4 => ?_) fun _ _ q => q.mono ((e1.trans e2).trans e3)⟩
      intro v4 H4 r4 e4 p4
      obtain ⟨d, e', h5⟩ := Out.ofO h4
      exact hs' r4 (p2.mono (e3.trans e4).vw) p4 e' (VOk.mono (((e1.trans e2).trans e3).trans e4) h5)
    | false =>
      rw [if_neg Bool.false_ne_true]
      rw [if_neg Bool.false_ne_true] at h3
      exact VOk.same (VOk.mono ((e1.trans e2).trans e3) h3) r3 (.bl false)
  | _ => cases ek'
theorem dChain {op op' : CmpOp} {r r' : R2} {g g' : D → D → Option D} {c : Expr} (ho : OpR X (compareOp op) r) (hs : Op2 X.K r g) (ho' : OpR X (compareOp op') r') (hs' : Op2 X.K r' g') (ha : PE X a (tE X.K cl W f1)) (hb : PE X b (tE X.K cl W f2)) (hc : PE X c (tE X.K cl W f3))
    (hm : lastMarks [op, op'] [b, c] = false := by with_unfolding_all rfl) : PE X (.Compare a [op, op'] [b, c] pos) (tE X.K cl W (xChain g g' f1 f2 f3)) := pe_imp (pe_chain ho ho' ha hb hc hm) (chain_imp hs hs')
theorem bChain {op op' : CmpOp} {r r' : R2} {g g' : D → D → Option D} {c : Expr} (ho : OpR X (compareOp op) r) (hs : Op2 X.K r g) (ho' : OpR X (compareOp op') r') (hs' : Op2 X.K r' g') (ha : PE X a (tE X.K cl W f1)) (hb : PE X b (tE X.K cl W f2)) (hc : PE X c (tE X.K cl W f3))
    (hm : lastMarks [op, op'] [b, c] = false := by with_unfolding_all rfl) : PT X (.Compare a [op, op'] [b, c] pos) (tT X.K cl W (bVal (xChain g g' f1 f2 f3))) := pt_imp (pt_chain ho ho' ha hb hc hm) (val_imp (chain_imp hs hs'))
theorem bValE (h : PE X e (tE X.K cl W f)) (he : ∀ whole, isTrue e X.env whole = (do let v ← whole; standAt e.pos; holding [v] (truthy v)) := by intro _; rfl) : PT X e (tT X.K cl W (bVal f)) := pt_imp (pt_val h he) (val_imp fun _ _ _ q => q)
/-! ### and, or, not, if -/
variable {rest : List Expr}
theorem dOne {op : BoolOp} (h : PE X a (tE X.K cl W f)) : PE X (.BoolOp op [a] pos) (tE X.K cl W f) := pe_one h
theorem dAnd (ha : PE X a (tE X.K cl W f1)) (hb : PE X (.BoolOp .And (b :: rest) pos) (tE X.K cl W f2)) : PE X (.BoolOp .And (a :: b :: rest) pos) (tE X.K cl W (xAnd f1 f2)) := pe_imp (pe_and ha hb) fun σ H Q => by
  rintro ⟨c, os, ρ, μ, r, h⟩
  refine ⟨c, os, ρ, μ, r, (Out.bind h).imp (fun d1 μ1 h1 => ?_) fun _ _ q => q⟩
  intro v1 H1 r1 e1 p1
  obtain ⟨k, e, h3⟩ := Out.ofO (Out.bind h1)
  cases d1 with
  | bl kb =>
    have z := p1.inv_bl
    subst z
    cases e
    refine ⟨k, rfl, ?_⟩
    cases k with
    | true =>
      rw [if_pos rfl] at h3 ⊢
      exact ⟨c, os, ρ, μ1, r1, h3.imp (fun _ _ q => q.mono e1) fun _ _ q => q.mono e1⟩
    | false =>
      rw [if_neg Bool.false_ne_true] at h3 ⊢
      exact VOk.same (VOk.mono e1 h3) r1 (.bl false)
  | _ => cases e
theorem dOr (ha : PE X a (tE X.K cl W f1)) (hb : PE X (.BoolOp .Or (b :: rest) pos) (tE X.K cl W f2)) : PE X (.BoolOp .Or (a :: b :: rest) pos) (tE X.K cl W (xOr f1 f2)) := pe_imp (pe_or ha hb) fun σ H Q => by
  rintro ⟨c, os, ρ, μ, r, h⟩
  refine ⟨c, os, ρ, μ, r, (Out.bind h).imp (fun d1 μ1 h1 => ?_) fun _ _ q => q⟩
  intro v1 H1 r1 e1 p1
  obtain ⟨k, e, h3⟩ := Out.ofO (Out.bind h1)
  cases d1 with
  | bl kb =>
    have z := p1.inv_bl
    subst z
    cases e
    refine ⟨k, rfl, ?_⟩
    cases k with
    | true =>
      rw [if_pos rfl] at h3 ⊢
      exact VOk.same (VOk.mono e1 h3) r1 (.bl true)
    | false =>
      rw [if_neg Bool.false_ne_true] at h3 ⊢
      exact ⟨c, os, ρ, μ1, r1, h3.imp (fun _ _ q => q.mono e1) fun _ _ q => q.mono e1⟩
  | _ => cases e
theorem dNot (ha : PE X a (tE X.K cl W f)) : PE X (.UnaryOp .Not a pos) (tE X.K cl W (xNot f)) := pe_imp (pe_not ha) fun σ H Q => by
  rintro ⟨c, os, ρ, μ, r, h⟩
  refine ⟨c, os, ρ, μ, r, (Out.bind h).imp (fun d1 μ1 h1 => ?_) fun _ _ q => q⟩
  intro v1 H1 r1 e1 p1
  obtain ⟨k, e, h3⟩ := Out.ofO (Out.bind h1)
  cases d1 with
  | bl kb =>
    have z := p1.inv_bl
    subst z
    cases e
    exact ⟨k, rfl, VOk.same (VOk.mono e1 h3) r1 (.bl _)⟩
  | _ => cases e
variable {t t1 t2 : XB}
theorem dIf {c : Expr} (hc : PT X c (tT X.K cl W t)) (ha : PE X a (tE X.K cl W f1)) (hb : PE X b (tE X.K cl W f2)) : PE X (.IfExp c a b pos) (tE X.K cl W (xIf t f1 f2)) := pe_imp (pe_ifExp hc ha hb) fun σ H Q => by
  rintro ⟨c, os, ρ, μ, r, h⟩
  refine ⟨c, os, ρ, μ, r, (Out.bind h).imp (fun k μ1 h1 => ?_) fun _ _ q => q⟩
  intro H1 r1 e1
  cases k with
  | true =>
    rw [if_pos rfl] at h1 ⊢
    exact ⟨c, os, ρ, μ1, r1, h1.imp (fun _ _ q => q.mono e1) fun _ _ q => q.mono e1⟩
  | false =>
    rw [if_neg Bool.false_ne_true] at h1 ⊢
    exact ⟨c, os, ρ, μ1, r1, h1.imp (fun _ _ q => q.mono e1) fun _ _ q => q.mono e1⟩
theorem dIfF {c : Expr} (hc : PT X c (tT X.K cl W t)) (ha : PE X a (tF X.K cl W f1)) (hb : PE X b (tF X.K cl W f2)) : PE X (.IfExp c a b pos) (tF X.K cl W (xIf t f1 f2)) := pe_imp (pe_ifExp hc ha hb) fun σ H Q => by
  rintro ⟨c, os, ρ, μ, r, h⟩
  refine ⟨c, os, ρ, μ, r, (Out.bind h).imp (fun k μ1 h1 => ?_) fun _ _ q => q⟩
  intro H1 r1 e1
  cases k with
  | true =>
    rw [if_pos rfl] at h1 ⊢
    exact ⟨c, os, ρ, μ1, r1, h1.imp (fun _ _ q => q.mono e1) fun _ _ q => q.mono e1⟩
  | false =>
    rw [if_neg Bool.false_ne_true] at h1 ⊢
    exact ⟨c, os, ρ, μ1, r1, h1.imp (fun _ _ q => q.mono e1) fun _ _ q => q.mono e1⟩
theorem wAnd1 (ha : PT X a (tT X.K cl W t)) : PW X (.BoolOp .And [a] pos) (tT X.K cl W t) := pw_and1 ha
theorem wOr1 (ha : PT X a (tT X.K cl W t)) : PW X (.BoolOp .Or [a] pos) (tT X.K cl W t) := pw_or1 ha
theorem wAnd (ha : PT X a (tT X.K cl W t1)) (hb : PW X (.BoolOp .And (b :: rest) pos) (tT X.K cl W t2)) : PW X (.BoolOp .And (a :: b :: rest) pos) (tT X.K cl W (bAnd t1 t2)) := pw_imp (pw_and ha hb) fun σ H Q => by
  rintro ⟨c, os, ρ, μ, r, h⟩
  refine ⟨c, os, ρ, μ, r, (Out.bind h).imp (fun k μ1 h1 => ?_) fun _ _ q => q⟩
  intro H1 r1 e1
  cases k with
  | true =>
    rw [if_pos rfl] at h1 ⊢
    exact ⟨c, os, ρ, μ1, r1, h1.imp (fun _ _ q H2 r2 e2 => q H2 r2 (e1.trans e2)) fun _ _ q => q.mono e1⟩
  | false =>
    rw [if_neg Bool.false_ne_true] at h1 ⊢
    exact h1 H1 r1 e1
theorem wOr (ha : PT X a (tT X.K cl W t1)) (hb : PW X (.BoolOp .Or (b :: rest) pos) (tT X.K cl W t2)) : PW X (.BoolOp .Or (a :: b :: rest) pos) (tT X.K cl W (bOr t1 t2)) := pw_imp (pw_or ha hb) fun σ H Q => by
  rintro ⟨c, os, ρ, μ, r, h⟩
  refine ⟨c, os, ρ, μ, r, (Out.bind h).imp (fun k μ1 h1 => ?_) fun _ _ q => q⟩
  intro H1 r1 e1
  cases k with
  | true =>
    rw [if_pos rfl] at h1 ⊢
    exact h1 H1 r1 e1
  | false =>
    rw [if_neg Bool.false_ne_true] at h1 ⊢
    exact ⟨c, os, ρ, μ1, r1, h1.imp (fun _ _ q H2 r2 e2 => q H2 r2 (e1.trans e2)) fun _ _ q => q.mono e1⟩
theorem bPW {e : Expr} (h : PW X e (tT X.K cl W t)) : PT X e (tT X.K cl W t) := h.pt
theorem bNotE (ha : PT X a (tT X.K cl W t)) : PT X (.UnaryOp .Not a pos) (tT X.K cl W (bNot t)) := pt_imp (pt_not ha) fun σ H Q => by
  rintro ⟨c, os, ρ, μ, r, h⟩
  exact ⟨c, os, ρ, μ, r, (Out.bind h).imp (fun k μ1 h1 H1 r1 e1 => h1 H1 r1 e1) fun _ _ q => q⟩
/-! ### arguments, displays -/
variable {es : List Expr} {fs : XL}
theorem aNil : PA X [] (tL X.K cl W lNil) := pa_imp pa_nil fun σ H Q => by
  rintro ⟨c, os, ρ, μ, r, h⟩
  exact h [] H r (Kp.refl _ _) .nil
theorem aCons (ha : PE X e (tE X.K cl W f)) (hr : PA X es (tL X.K cl W fs)) (hs : starEach (e :: es) X.env = (false, eval e X.env) :: starEach es X.env := by rfl) : PA X (e :: es) (tL X.K cl W (lCons f fs)) := pa_imp (pa_cons ha hr hs) fun σ H Q => by
  rintro ⟨c, os, ρ, μ, r, h⟩
  refine ⟨c, os, ρ, μ, r, (Out.bind h).imp (fun d1 μ1 h1 => ?_) fun _ _ q => q⟩
  intro v1 H1 r1 e1 p1
  refine ⟨c, os, ρ, μ1, r1, (Out.bind h1).imp (fun ds μ2 h2 => ?_) fun _ _ q => q.mono e1⟩
  intro vs H2 r2 e2 p2
  exact h2 _ H2 r2 (e1.trans e2) (.cons (p1.mono e2.vw) p2)
theorem dTup {x1 : Nat} (h : PA X es (tL X.K cl W fs)) : PE X (.Tuple es x1 pos) (tE X.K cl W (xTup fs)) := pe_imp (pe_tup h) fun σ H Q => by
  rintro ⟨c, os, ρ, μ, r, h⟩
  refine ⟨c, os, ρ, μ, r, (Out.bind h).imp (fun ds μ1 h1 => ?_) fun _ _ q => q⟩
  intro vs H1 r1 e1 p1
  by_cases hl : lenOk ds = true
  · rw [if_pos hl] at h1
    refine ⟨by rw [p1.length]; exact lenOk_le hl, fun p n => VOk.newT (VOk.mono e1 h1) r1 p1 n⟩
  · rw [if_neg hl] at h1
    exact False.elim h1
theorem dLst (h : PA X es (tL X.K cl W fs)) : PE X (.List es pos) (tF X.K cl W (xLst fs)) := pe_imp (pe_lst h) fun σ H Q => by
  rintro ⟨c, os, ρ, μ, r, h⟩
  refine ⟨c, os, ρ, μ, r, (Out.bind h).imp (fun ds μ1 h1 => ?_) fun _ _ q => q⟩
  intro vs H1 r1 e1 p1
  by_cases hl : lenOk ds = true
  · rw [if_pos hl] at h1
    refine ⟨by rw [p1.length]; exact lenOk_le hl, fun p n => FOk.newL (FOk.mono e1 h1) r1 p1 n⟩
  · rw [if_neg hl] at h1
    exact False.elim h1
/-! ### built-ins called -/
def CbD (K : PySem.W.Frag) (r : List V → Hp → VK → Prop) (g : List D → Option D) : Prop := ∀ {c : Ct} {os : List (Option Addr)} {ρ : Env} {μ : Store} {σ : L2.St} {H : Hp} {vs : List V} {ds : List D} {d : D} {Q : VK}, Rl K c os ρ μ σ H → RpA K c.T (vw c os H) vs ds → g ds = some d → VOk K c os ρ σ H Q d μ → r vs H Q
def CbF (K : PySem.W.Frag) (r : List V → Hp → VK → Prop) (g : List D → Option D) : Prop := ∀ {c : Ct} {os : List (Option Addr)} {ρ : Env} {μ : Store} {σ : L2.St} {H : Hp} {vs : List V} {ds : List D} {d : D} {Q : VK}, Rl K c os ρ μ σ H → RpA K c.T (vw c os H) vs ds → g ds = some d → FOk K c os ρ σ H Q d μ → r vs H Q
theorem cb_imp {r : List V → Hp → VK → Prop} {g : List D → Option D} (hs : CbD X.K r g) (σ : L2.St) (H : Hp) (Q : VK) (h : tE X.K cl W (xCb g fs) σ H Q) : tCB r (tL X.K cl W fs) σ H Q := by
  obtain ⟨c, os, ρ, μ, r, h⟩ := h
  refine ⟨c, os, ρ, μ, r, (Out.bind h).imp (fun ds μ1 h1 => ?_) fun _ _ q => q⟩
  intro vs H1 r1 e1 p1
  obtain ⟨d, e, h2⟩ := Out.ofO h1
  exact hs r1 p1 e (VOk.mono e1 h2)
theorem cbF_imp {r : List V → Hp → VK → Prop} {g : List D → Option D} (hs : CbF X.K r g) (σ : L2.St) (H : Hp) (Q : VK) (h : tF X.K cl W (xCb g fs) σ H Q) : tCB r (tL X.K cl W fs) σ H Q := by
  obtain ⟨c, os, ρ, μ, r, h⟩ := h
  refine ⟨c, os, ρ, μ, r, (Out.bind h).imp (fun ds μ1 h1 => ?_) fun _ _ q => q⟩
  intro vs H1 r1 e1 p1
  obtain ⟨d, e, h2⟩ := Out.ofO h1
  exact hs r1 p1 e (FOk.mono e1 h2)
theorem dCb {r : List V → Hp → VK → Prop} {g : List D → Option D} {x : Str} {id : String} {p : Pos} (hc : CallR X (.builtin id) r) (hs : CbD X.K r g) (hg : Gl X x) (hm : X.mg x = none) (hv : bootBuiltins x = some (.builtin id)) (ha : PA X (e :: es) (tL X.K cl W fs)) (hn : x ≠ "__name__" := by decide) (hdb : (x == ("__debug__" : Str)) = false := by decide)
    (he : starEach (e :: es) X.env = (false, eval e X.env) :: starEach es X.env := by rfl) (hpl : (backTo pos (starEach es X.env)).any (·.1) = false := by rfl) : PE X (.Call (.Name x p) (e :: es) [] pos) (tE X.K cl W (xCb g fs)) := pe_imp (pe_callB hc hg hm hv ha hn hdb he hpl) (cb_imp hs)
theorem dCbF {r : List V → Hp → VK → Prop} {g : List D → Option D} {x : Str} {id : String} {p : Pos} (hc : CallR X (.builtin id) r) (hs : CbF X.K r g) (hg : Gl X x) (hm : X.mg x = none) (hv : bootBuiltins x = some (.builtin id)) (ha : PA X (e :: es) (tL X.K cl W fs)) (hn : x ≠ "__name__" := by decide) (hdb : (x == ("__debug__" : Str)) = false := by decide)
    (he : starEach (e :: es) X.env = (false, eval e X.env) :: starEach es X.env := by rfl) (hpl : (backTo pos (starEach es X.env)).any (·.1) = false := by rfl) : PE X (.Call (.Name x p) (e :: es) [] pos) (tF X.K cl W (xCb g fs)) := pe_imp (pe_callB hc hg hm hv ha hn hdb he hpl) (cbF_imp hs)
theorem dCty {r : List V → Hp → VK → Prop} {g : List D → Option D} {x : Str} {T : String} {p : Pos} (hc : CallR X (.type T) r) (hs : CbD X.K r g) (hg : Gl X x) (hm : X.mg x = none) (hv : bootBuiltins x = some (.type T)) (ha : PA X (e :: es) (tL X.K cl W fs)) (hn : x ≠ "__name__" := by decide) (hdb : (x == ("__debug__" : Str)) = false := by decide)
    (he : starEach (e :: es) X.env = (false, eval e X.env) :: starEach es X.env := by rfl) (hpl : (backTo pos (starEach es X.env)).any (·.1) = false := by rfl) : PE X (.Call (.Name x p) (e :: es) [] pos) (tE X.K cl W (xCb g fs)) := pe_imp (pe_callTy hc hg hm hv ha hn hdb he hpl) (cb_imp hs)
theorem dCtyF {r : List V → Hp → VK → Prop} {g : List D → Option D} {x : Str} {T : String} {p : Pos} (hc : CallR X (.type T) r) (hs : CbF X.K r g) (hg : Gl X x) (hm : X.mg x = none) (hv : bootBuiltins x = some (.type T)) (ha : PA X (e :: es) (tL X.K cl W fs)) (hn : x ≠ "__name__" := by decide) (hdb : (x == ("__debug__" : Str)) = false := by decide)
    (he : starEach (e :: es) X.env = (false, eval e X.env) :: starEach es X.env := by rfl) (hpl : (backTo pos (starEach es X.env)).any (·.1) = false := by rfl) : PE X (.Call (.Name x p) (e :: es) [] pos) (tF X.K cl W (xCb g fs)) := pe_imp (pe_callTy hc hg hm hv ha hn hdb he hpl) (cbF_imp hs)
end
/-! ### a def's promise by its denotation -/
def SpD (K : PySem.W.Frag) (cl : Nat → Addr) (n : Nat) (g : List D → Store → Res D) : Sp := fun vs H Q E => ∃ (A : Addr → Prop) (T : List Addr) (μ : Store) (ds : List D),
  Rl K ⟨A, T, H⟩ [] [] μ [] H ∧ RpA K T (vw ⟨A, T, H⟩ [] H) vs ds ∧ ds.length = n ∧
  Out (g ds μ) (fun d μ' => ∀ v H', Rl K ⟨A, T, H⟩ [] [] μ' [] H' → Rp K T (vw ⟨A, T, H⟩ [] H') v d → Q v H') (fun x μ' => ∀ e dx H', Rl K ⟨A, T, H⟩ [] [] μ' [] H' → ExAt K cl ⟨A, T, H⟩ [] x e dx H' → E e dx H')
def SpF (K : PySem.W.Frag) (cl : Nat → Addr) (n : Nat) (g : List D → Store → Res D) : Sp := fun vs H Q E => ∃ (A : Addr → Prop) (T : List Addr) (μ : Store) (ds : List D),
  Rl K ⟨A, T, H⟩ [] [] μ [] H ∧ RpA K T (vw ⟨A, T, H⟩ [] H) vs ds ∧ ds.length = n ∧
  Out (g ds μ) (fun d μ' => ∀ a H', Fr K ⟨A, T, H⟩ [] [] μ' [] H' a d → Q (.ref a) H') (fun x μ' => ∀ e dx H', Rl K ⟨A, T, H⟩ [] [] μ' [] H' → ExAt K cl ⟨A, T, H⟩ [] x e dx H' → E e dx H')
section
variable {K : PySem.W.Frag} {cl : Nat → Addr} {c : Ct} {os : List (Option Addr)} {ρ : Env} {μ μ' : Store} {σ : L2.St} {H H' : Hp} {a : Addr} {d : D} {x : Exn}
/-- the callee's view -/
def Ct.in (c : Ct) (os : List (Option Addr)) (H : Hp) : Ct := ⟨fun b => c.A b ∨ some b ∈ os, c.T, H⟩
theorem vw_in (c : Ct) (os : List (Option Addr)) (H H' : Hp) : vw (c.in os H) [] H' = vw c os H' := by
  funext b
  unfold vw Ct.in
  by_cases hb : (c.A b ∨ b ∈ c.T ∨ some b ∈ os)
  · rw [if_pos hb, if_pos]
    rcases hb with h | h | h
    · exact .inl (.inl h)
    · exact .inr (.inl h)
    · exact .inl (.inr h)
  · rw [if_neg hb, if_neg]
    rintro ((h | h) | h | h)
    · exact hb (.inl h)
    · exact hb (.inr (.inr h))
    · exact hb (.inr (.inl h))
    · cases h
theorem vw_inav (c : Ct) (os : List (Option Addr)) (H H' : Hp) (a : Addr) : vw ((c.in os H).av a) [] H' = vw (c.av a) os H' := by
  funext b
  unfold vw Ct.in Ct.av
  by_cases hb : ((c.A b ∨ b = a) ∨ b ∈ c.T ∨ some b ∈ os)
  · rw [if_pos hb, if_pos]
    rcases hb with (h | h) | h | h
    · exact .inl (.inl (.inl h))
    · exact .inl (.inr h)
    · exact .inr (.inl h)
    · exact .inl (.inl (.inr h))
  · rw [if_neg hb, if_neg]
    rintro (((h | h) | h) | h | h)
    · exact hb (.inl (.inl h))
    · exact hb (.inr (.inr h))
    · exact hb (.inl (.inr h))
    · exact hb (.inr (.inl h))
    · cases h
theorem Rl.callIn (r : Rl K c os ρ μ σ H) : Rl K (c.in os H) [] [] μ [] H where
  lo := rfl
  lr := rfl
  sl := fun i o s x h => by simp at h
  inj := fun i j a h => by simp at h
  own := fun a h => by cases h
  tA := fun b hb h => h.elim (r.tA b hb) fun z => (r.own b z).1 hb
  tn := r.tn
  sm := r.sm
  st := r.st
  keep := fun b o h _ => h
  dom := fun b h => h.elim (r.dom b) r.ownSomeN
/-- behind a call -/
theorem Rl.callOut (r : Rl K c os ρ μ σ H) (q : Rl K (c.in os H) [] [] μ' [] H') : Rl K c os ρ μ' σ H' ∧ Kp c H H' := by
  have e : Exts (vw c os H) (vw c os H') := fun b o h => by
    obtain ⟨h1, h2, h3, h4⟩ := vw_some.mp h
    exact vw_some.mpr ⟨q.keep b o h1 h3, h2, h3, h4⟩
  refine ⟨⟨r.lo, r.lr, fun i o s x h1 h2 h3 => ?_, r.inj, r.own, r.tA, r.tn, q.sm, q.st, fun b o h1 h2 => q.keep b o (r.keep b o h1 h2) h2, fun b h => ?_⟩, fun b o h1 h2 => q.keep b o h1 h2⟩
  · have z := r.sl i o s x h1 h2 h3
    have hm : ∀ b, o = some b → b ∉ c.T := fun b eb => (r.own b (by rw [← eb]; exact List.mem_of_getElem? h1)).1
    unfold SlAt at z ⊢
    split at z
    · trivial
    · exact z.mono e
    · exact ⟨z.1, z.2.mono e (fun o h => q.keep _ _ h (hm _ rfl))⟩
    · exact z.elim
  · obtain ⟨o, z, nu⟩ := r.dom b h
    exact ⟨o, q.keep b o z fun y => r.tA b y h, nu⟩
theorem Fr.callOut (r : Rl K c os ρ μ σ H) (q : Fr K (c.in os H) [] [] μ' [] H' a d) : Fr K c os ρ μ' σ H' a d ∧ Kp c H H' := by
  have na : ¬ c.A a := fun z => q.nA (.inl z)
  have no : some a ∉ os := fun z => q.nA (.inr z)
  have hn : H a = none := q.he
  have kp : ∀ b o, H b = some o → b ∉ c.T → H' b = some o := fun b o h1 h2 => q.rl.keep b o h1 h2
  have e : Exts (vw c os H) (vw (c.av a) os H') := fun b o h => by
    obtain ⟨h1, h2, h3, h4⟩ := vw_some.mp h
    have nb : b ≠ a := ne_of_none h1 hn
    exact vw_some.mpr ⟨kp b o h1 h3, fun z => z.elim h2 nb, h3, h4⟩
  have ow := q.ow
  rw [vw_inav] at ow
  refine ⟨⟨⟨r.lo, r.lr, fun i o s x h1 h2 h3 => ?_, r.inj, fun b h => ?_, fun b h z => ?_, r.tn, q.rl.sm, q.rl.st, fun b o h1 h2 => kp b o (r.keep b o h1 h2) h2, fun b h => ?_⟩, ow, na, q.nT, no, (r.fresh hn).2.2.2⟩, kp⟩
  · have z := r.sl i o s x h1 h2 h3
    have hm : ∀ b, o = some b → b ∉ c.T := fun b eb => (r.own b (by rw [← eb]; exact List.mem_of_getElem? h1)).1
    unfold SlAt at z ⊢
    split at z
    · trivial
    · exact z.mono e
    · exact ⟨z.1, z.2.mono e (fun o h => kp _ _ h (hm _ rfl))⟩
    · exact z.elim
  · exact ⟨(r.own b h).1, fun z => z.elim (r.own b h).2.1 fun y => no (by rw [← y]; exact h), (r.own b h).2.2⟩
  · exact z.elim (r.tA b h) fun y => q.nT (by rw [← y]; exact h)
  · rcases h with h | h
    · obtain ⟨o, z, nu⟩ := r.dom b h
      exact ⟨o, kp b o z fun y => r.tA b y h, nu⟩
    · rw [h]; exact q.ow.thereN
theorem ExAt.of_in {e : Value} {dx : Option Addr} (h : ExAt K cl (c.in os H) [] x e dx H') : ExAt K cl c os x e dx H' := by
  unfold ExAt at h ⊢
  rw [vw_in] at h
  exact h
end
section
variable {X : Cx} {cl : Nat → Addr} {W : WX} {e : Expr} {es : List Expr} {fs : XL} {pos p : Pos} {k : Nat} {f : Addr} {fd : FuncData} {ps : List Str} {x : Str} {n : Nat} {g : List D → Store → Res D}
theorem dCall (F : FnOk X.prog X.w X.K X.mg X.base (L2.CX X.prog X.w) k f fd ps (SpD X.K cl n g)) (hr : Room k X.A) (hg : Gl X x) (hm : X.mg x = some (.ref f)) (hk : PySem.W.keepIn X.K (.ref f) = true) (hb : Binds X.K fd ps []) (tk : Takes X W) (ha : PA X (e :: es) (tL X.K cl W fs)) (hn : ∀ ρ μ ds μ', fs ρ μ = .ok ds μ' → ds.length = n)
    (hdb : (x == ("__debug__" : Str)) = false := by decide) (he : starEach (e :: es) X.env = (false, eval e X.env) :: starEach es X.env := by rfl) (hpl : (backTo pos (starEach es X.env)).any (·.1) = false := by rfl) :
    PE X (.Call (.Name x p) (e :: es) [] pos) (tE X.K cl W (xCall g fs)) := pe_imp (pe_callSD (dvs := []) F hr hg hm hk hb .nil (fun σ => passAt tk σ) ha hdb he hpl) fun σ H Q => by
  rintro ⟨c, os, ρ, μ, r, h⟩
  have h' := Out.bind h
  refine ⟨c, os, ρ, μ, r, ?_⟩
  cases e0 : fs ρ μ with
  | fail => rw [e0] at h'; exact h'
  | exc y μ1 => rw [e0] at h'; exact h'
  | ok ds μ1 =>
    rw [e0] at h'
    intro vs H1 r1 e1 p1
    rw [List.append_nil]
    refine ⟨fun b => c.A b ∨ some b ∈ os, c.T, μ1, ds, r1.callIn, ?_, hn _ _ _ _ e0, ?_⟩
    · exact (vw_in c os H1 H1).symm ▸ p1
    · refine Out.imp h' (fun d μ2 q v H2 r2 p2 => ?_) (fun y μ2 q v dx H2 r2 p2 => ?_)
      · obtain ⟨r3, e3⟩ := r1.callOut r2
        exact q v H2 r3 (e1.trans e3) ((vw_in c os H1 H2) ▸ p2)
      · obtain ⟨r3, e3⟩ := r1.callOut r2
        exact q v dx H2 r3 (e1.trans e3) p2.of_in
theorem dCallF (F : FnOk X.prog X.w X.K X.mg X.base (L2.CX X.prog X.w) k f fd ps (SpF X.K cl n g)) (hr : Room k X.A) (hg : Gl X x) (hm : X.mg x = some (.ref f)) (hk : PySem.W.keepIn X.K (.ref f) = true) (hb : Binds X.K fd ps []) (tk : Takes X W) (ha : PA X (e :: es) (tL X.K cl W fs)) (hn : ∀ ρ μ ds μ', fs ρ μ = .ok ds μ' → ds.length = n)
    (hdb : (x == ("__debug__" : Str)) = false := by decide) (he : starEach (e :: es) X.env = (false, eval e X.env) :: starEach es X.env := by rfl) (hpl : (backTo pos (starEach es X.env)).any (·.1) = false := by rfl) :
    PE X (.Call (.Name x p) (e :: es) [] pos) (tF X.K cl W (xCall g fs)) := pe_imp (pe_callSD (dvs := []) F hr hg hm hk hb .nil (fun σ => passAt tk σ) ha hdb he hpl) fun σ H Q => by
  rintro ⟨c, os, ρ, μ, r, h⟩
  have h' := Out.bind h
  refine ⟨c, os, ρ, μ, r, ?_⟩
  cases e0 : fs ρ μ with
  | fail => rw [e0] at h'; exact h'
  | exc y μ1 => rw [e0] at h'; exact h'
  | ok ds μ1 =>
    rw [e0] at h'
    intro vs H1 r1 e1 p1
    rw [List.append_nil]
    refine ⟨fun b => c.A b ∨ some b ∈ os, c.T, μ1, ds, r1.callIn, ?_, hn _ _ _ _ e0, ?_⟩
    · exact (vw_in c os H1 H1).symm ▸ p1
    · refine Out.imp h' (fun d μ2 q v H2 r2 => ?_) (fun y μ2 q v dx H2 r2 p2 => ?_)
      · obtain ⟨r3, e3⟩ := Fr.callOut r1 r2
        exact q v H2 r3 (e1.trans e3) (e1.nn r2.he r2.nT)
      · obtain ⟨r3, e3⟩ := r1.callOut r2
        exact q v dx H2 r3 (e1.trans e3) p2.of_in
theorem lNil_len : ∀ ρ μ ds μ', lNil ρ μ = .ok ds μ' → ds.length = 0 := fun ρ μ ds μ' h => by
  cases h; rfl
theorem lCons_len {f : XD} {fs : XL} {n : Nat} (h : ∀ ρ μ ds μ', fs ρ μ = .ok ds μ' → ds.length = n) : ∀ ρ μ ds μ', lCons f fs ρ μ = .ok ds μ' → ds.length = n + 1 := fun ρ μ ds μ' e => by
  unfold lCons at e
  cases e1 : f ρ μ with
  | fail => rw [e1] at e; cases e
  | exc y μ1 => rw [e1] at e; cases e
  | ok d μ1 =>
    rw [e1] at e
    have e' : (fs ρ μ1).bind (fun ds μ2 => Res.ok (d :: ds) μ2) = .ok ds μ' := e
    cases e2 : fs ρ μ1 with
    | fail => rw [e2] at e'; cases e'
    | exc y μ2 => rw [e2] at e'; cases e'
    | ok es μ2 =>
      rw [e2] at e'
      cases e'
      rw [List.length_cons, h _ _ _ _ e2]
end
end DC
set_option Elab.async false
set_option linter.all false
set_option maxRecDepth 100000
set_option maxHeartbeats 2000000
/-! DC: operators by values. -/
namespace DC
open PySem PySem.Spec PyProof.Rows L2
/-! ### two rules for one operation -/
theorem Op2.or {K : PySem.W.Frag} {r r' : R2} {g g' h : D → D → Option D} (a : Op2 K r g) (b : Op2 K r' g') (hh : ∀ x y z, h x y = some z → g x y = some z ∨ g' x y = some z) : Op2 K (fun x y H Q => r x y H Q ∨ r' x y H Q) h := fun rl p1 p2 e q => by
  rcases hh _ _ _ e with z | z
  · exact .inl (a rl p1 p2 z q)
  · exact .inr (b rl p1 p2 z q)
theorem CbD.or {K : PySem.W.Frag} {r r' : List V → Hp → VK → Prop} {g g' h : List D → Option D} (a : CbD K r g) (b : CbD K r' g') (hh : ∀ x z, h x = some z → g x = some z ∨ g' x = some z) : CbD K (fun x H Q => r x H Q ∨ r' x H Q) h := fun rl p e q => by
  rcases hh _ _ e with z | z
  · exact .inl (a rl p z q)
  · exact .inr (b rl p z q)
theorem CbF.or {K : PySem.W.Frag} {r r' : List V → Hp → VK → Prop} {g g' h : List D → Option D} (a : CbF K r g) (b : CbF K r' g') (hh : ∀ x z, h x = some z → g x = some z ∨ g' x = some z) : CbF K (fun x H Q => r x H Q ∨ r' x H Q) h := fun rl p e q => by
  rcases hh _ _ e with z | z
  · exact .inl (a rl p z q)
  · exact .inr (b rl p z q)
theorem CbF.v {K : PySem.W.Frag} {r : List V → Hp → VK → Prop} {g : List D → Option D} (h : CbF K r g) : CbD K r g := fun r' p e q => h r' p e q.f
section
variable {K : PySem.W.Frag} {T : List Addr} {Hv H : Hp} {c : Ct} {os : List (Option Addr)} {ρ : Env} {μ : Store} {σ : L2.St}
theorem strOk_cat {x y : Str} (hx : strOk x = true) (hy : strOk y = true) : strOk (x ++ y) = true := by
  unfold strOk at *
  show (x.cps ++ y.cps).all _ = true
  rw [Array.all_append, hx, hy]
  rfl
/-! ### + -/
def addI : D → D → Option D
  | .int i, .int j => some (.int (i + j))
  | _, _ => none
def addIB : D → D → Option D
  | .int i, .bl k => some (.int (i + b2i k))
  | _, _ => none
def addS : D → D → Option D
  | .str x, .str y => if Nat.ble (x.length + y.length) 1000000 then some (.str (x ++ y)) else none
  | _, _ => none
def addT : D → D → Option D
  | .tup xs, .tup ys => if Nat.ble (xs.length + ys.length) 1000000 then some (.tup (xs ++ ys)) else none
  | _, _ => none
def addL : D → D → Option D
  | .lst xs, .lst ys => if Nat.ble (xs.length + ys.length) 1000000 then some (.lst (xs ++ ys)) else none
  | _, _ => none
def addD : D → D → Option D
  | .int i, .int j => some (.int (i + j))
  | .int i, .bl k => some (.int (i + b2i k))
  | .str x, .str y => if Nat.ble (x.length + y.length) 1000000 then some (.str (x ++ y)) else none
  | .tup xs, .tup ys => if Nat.ble (xs.length + ys.length) 1000000 then some (.tup (xs ++ ys)) else none
  | .lst xs, .lst ys => if Nat.ble (xs.length + ys.length) 1000000 then some (.lst (xs ++ ys)) else none
  | _, _ => none
theorem ble_line {n : Nat} (h : Nat.ble n 1000000 = true) : n ≤ sizeLine := Nat.le_trans (Nat.le_of_ble_eq_true h) (by rw [sizeLine_eq]; decide)
theorem o_addI : Op2 K (rI0 fun i j => .int (i + j)) addI := fun {c os ρ μ σ H x y d1 d2 d Q} r p1 p2 e q => by
  unfold addI at e
  split at e
  · cases e
    exact ⟨_, _, p1.inv_int, p2.inv_int, VOk.same q r (.int _)⟩
  · cases e
theorem o_addIB : Op2 K (fun x y H Q => ∃ i k, x = .int i ∧ y = .bl k ∧ Q (.int (i + b2i k)) H) addIB := fun {c os ρ μ σ H x y d1 d2 d Q} r p1 p2 e q => by
  unfold addIB at e
  split at e
  · cases e
    exact ⟨_, _, p1.inv_int, p2.inv_bl, VOk.same q r (.int _)⟩
  · cases e
theorem o_addS : Op2 K (fun x y H Q => ∃ i j, x = .str i ∧ y = .str j ∧ i.length + j.length ≤ sizeLine ∧ Q (.str (i ++ j)) H) addS := fun {c os ρ μ σ H x y d1 d2 d Q} r p1 p2 e q => by
  unfold addS at e
  split at e
  · split at e
    · rename_i hl
      cases e
      obtain ⟨z1, k1⟩ := p1.inv_str
      obtain ⟨z2, k2⟩ := p2.inv_str
      exact ⟨_, _, z1, z2, ble_line hl, VOk.same q r (.str (strOk_cat k1 k2))⟩
    · cases e
  · cases e
theorem o_addT : Op2 K (rCatA K) addT := fun {c os ρ μ σ H x y d1 d2 d Q} r p1 p2 e q => by
  unfold addT at e
  split at e
  · split at e
    · rename_i hl
      cases e
      obtain ⟨a, vs, rfl, h1, k1⟩ := p1.inv_tup
      obtain ⟨b, ws, rfl, h2, k2⟩ := p2.inv_tup
      refine ⟨a, b, vs, ws, rfl, rfl, vw_le.sqT h1, vw_le.sqT h2, by rw [k1.length, k2.length]; exact ble_line hl, fun z => ?_, fun _ z => ?_, fun _ _ p n => VOk.newT q r (k1.append k2) n⟩
      · subst z; cases k1
        exact VOk.same q r (.tup h2 k2)
      · subst z; cases k2
        rw [List.append_nil] at q
        exact VOk.same q r (.tup h1 k1)
    · cases e
  · cases e
theorem o_addL : Op2F K rCat addL := fun {c os ρ μ σ H x y d1 d2 d Q} r p1 p2 e q => by
  unfold addL at e
  split at e
  · split at e
    · rename_i hl
      cases e
      obtain ⟨a, vs, rfl, h1, k1⟩ := p1.inv_lst
      obtain ⟨b, ws, rfl, h2, k2⟩ := p2.inv_lst
      exact ⟨a, b, vs, ws, rfl, rfl, vw_le _ _ h1, vw_le _ _ h2, by rw [k1.length, k2.length]; exact ble_line hl, fun p n => FOk.newL q r (k1.append k2) n⟩
    · cases e
  · cases e
theorem o_add : Op2 K (fun x y H Q => rI0 (fun i j => .int (i + j)) x y H Q ∨ ((∃ i k, x = .int i ∧ y = .bl k ∧ Q (.int (i + b2i k)) H) ∨ ((∃ i j, x = .str i ∧ y = .str j ∧ i.length + j.length ≤ sizeLine ∧ Q (.str (i ++ j)) H) ∨ (rCatA K x y H Q ∨ rCat x y H Q)))) addD :=
  o_addI.or (o_addIB.or (o_addS.or (o_addT.or o_addL.v (h := fun x y => (addT x y).or (addL x y)) fun x y z e => by
    cases h : addT x y with
    | some w => rw [h] at e; exact .inl e
    | none => rw [h] at e; exact .inr e) (h := fun x y => (addS x y).or ((addT x y).or (addL x y))) fun x y z e => by
    cases h : addS x y with
    | some w => rw [h] at e; exact .inl e
    | none => rw [h] at e; exact .inr e) (h := fun x y => (addIB x y).or ((addS x y).or ((addT x y).or (addL x y)))) fun x y z e => by
    cases h : addIB x y with
    | some w => rw [h] at e; exact .inl e
    | none => rw [h] at e; exact .inr e) fun x y z e => by
      unfold addD at e
      split at e
      · exact .inl e
      · exact .inr e
      · exact .inr (by
          show (none : Option D).or ((addS _ _).or _) = _
          unfold addS
          rw [Option.none_or]
          split at e
          · rename_i hl; simp only [hl, if_true]; exact e
          · cases e)
      · exact .inr (by
          show (none : Option D).or ((none : Option D).or ((addT _ _).or _)) = _
          unfold addT
          rw [Option.none_or, Option.none_or]
          split at e
          · rename_i hl; simp only [hl, if_true]; exact e
          · cases e)
      · exact .inr (by
          show (none : Option D).or ((none : Option D).or ((none : Option D).or (addL _ _))) = _
          unfold addL
          rw [Option.none_or, Option.none_or, Option.none_or]
          exact e)
      · cases e
theorem op_addD {X : Cx} : OpR X (binaryOp .Add) (fun x y H Q => rI0 (fun i j => .int (i + j)) x y H Q ∨ ((∃ i k, x = .int i ∧ y = .bl k ∧ Q (.int (i + b2i k)) H) ∨ ((∃ i j, x = .str i ∧ y = .str j ∧ i.length + j.length ≤ sizeLine ∧ Q (.str (i ++ j)) H) ∨ (rCatA X.K x y H Q ∨ rCat x y H Q)))) := op_add.or (op_add_ib.or (op_add_str.or (op_catA.or op_cat)))
/-! ### -, *, //, % -/
def subD : D → D → Option D
  | .int i, .int j => some (.int (i - j))
  | _, _ => none
theorem o_sub : Op2 K (rI0 fun i j => .int (i - j)) subD := fun {c os ρ μ σ H x y d1 d2 d Q} r p1 p2 e q => by
  unfold subD at e
  split at e
  · cases e
    exact ⟨_, _, p1.inv_int, p2.inv_int, VOk.same q r (.int _)⟩
  · cases e
def small64 (i : Int) : Bool := Nat.blt i.natAbs 18446744073709551616
def mulOk (i j : Int) : Bool := small64 i || small64 j || (Nat.blt i.natAbs (2 ^ 65536) && Nat.blt j.natAbs (2 ^ 65536))
def mulD : D → D → Option D
  | .int i, .int j => if mulOk i j then some (.int (i * j)) else none
  | _, _ => none
theorem small64_lt {i : Int} (h : small64 i = true) : -(2 ^ 64) < i ∧ i < 2 ^ 64 := by
  have z : i.natAbs < 18446744073709551616 := Nat.le_of_ble_eq_true h
  omega
theorem o_mul : Op2 K (fun x y H Q => rI CMul (fun i j => .int (i * j)) x y H Q ∨ rI CMulW (fun i j => .int (i * j)) x y H Q) mulD := fun {c os ρ μ σ H x y d1 d2 d Q} r p1 p2 e q => by
  unfold mulD at e
  split at e
  · rename_i i j
    split at e
    · rename_i hl
      cases e
      unfold mulOk at hl
      simp only [Bool.or_eq_true, Bool.and_eq_true] at hl
      rcases hl with (hl | hl) | ⟨hl, hl2⟩
      · exact .inl ⟨_, _, p1.inv_int, p2.inv_int, .inl (small64_lt hl), VOk.same q r (.int _)⟩
      · exact .inl ⟨_, _, p1.inv_int, p2.inv_int, .inr (small64_lt hl), VOk.same q r (.int _)⟩
      · have h1 : i.natAbs < 2 ^ 65536 := Nat.le_of_ble_eq_true hl
        have h2 : j.natAbs < 2 ^ 65536 := Nat.le_of_ble_eq_true hl2
        exact .inr ⟨_, _, p1.inv_int, p2.inv_int, wide_mul h1 h2 (by decide) (by decide) (by decide), VOk.same q r (.int _)⟩
    · cases e
  · cases e
theorem op_mulD {X : Cx} : OpR X (binaryOp .Mult) (fun x y H Q => rI CMul (fun i j => .int (i * j)) x y H Q ∨ rI CMulW (fun i j => .int (i * j)) x y H Q) := op_mul.or op_mulW
def repL : D → D → Option D
  | .lst xs, .int k => if Nat.blt k.natAbs 4611686018427387904 && Nat.ble (xs.length * k.toNat) 1000000 then some (.lst (List.replicate k.toNat xs).flatten) else none
  | _, _ => none
theorem RpA.rep {vs : List V} {ds : List D} (h : RpA K T H vs ds) : ∀ n, RpA K T H (List.replicate n vs).flatten (List.replicate n ds).flatten
  | 0 => .nil
  | n + 1 => by
    rw [List.replicate_succ, List.replicate_succ, List.flatten_cons, List.flatten_cons]
    exact h.append (RpA.rep h n)
theorem o_repL : Op2F K rRep repL := fun {c os ρ μ σ H x y d1 d2 d Q} r p1 p2 e q => by
  unfold repL at e
  split at e
  · split at e
    · rename_i hl
      cases e
      rw [Bool.and_eq_true] at hl
      have hk := Nat.le_of_ble_eq_true hl.1
      obtain ⟨a, vs, rfl, h1, k1⟩ := p1.inv_lst
      exact ⟨a, _, vs, rfl, p2.inv_int, vw_le _ _ h1, by have z : (_ : Int).natAbs < 4611686018427387904 := hk; omega, by have z : (_ : Int).natAbs < 4611686018427387904 := hk; omega, by rw [k1.length]; exact ble_line hl.2, fun p n => FOk.newL q r (k1.rep _) n⟩
    · cases e
  · cases e
def divD : D → D → Option D
  | .int i, .int j => if decide (0 < j) && Nat.blt j.natAbs (2 ^ 8999) then some (.int (i / j)) else if decide (j < 0) && Nat.blt j.natAbs 1073741824 then some (.int (i.fdiv j)) else none
  | _, _ => none
theorem o_div : Op2 K (fun x y H Q => rI CDivW (fun i j => .int (i / j)) x y H Q ∨ rI CDivN (fun i j => .int (i.fdiv j)) x y H Q) divD := fun {c os ρ μ σ H x y d1 d2 d Q} r p1 p2 e q => by
  unfold divD at e
  split at e
  · rename_i i j
    split at e
    · rename_i hl
      cases e
      simp only [Bool.and_eq_true, decide_eq_true_eq] at hl
      have h2 : j.natAbs < 2 ^ 8999 := Nat.le_of_ble_eq_true hl.2
      exact .inl ⟨_, _, p1.inv_int, p2.inv_int, wide_div hl.1 h2 (by decide) (by decide), VOk.same q r (.int _)⟩
    · split at e
      · rename_i hl
        cases e
        simp only [Bool.and_eq_true, decide_eq_true_eq] at hl
        have h2 : j.natAbs < 1073741824 := Nat.le_of_ble_eq_true hl.2
        exact .inr ⟨_, _, p1.inv_int, p2.inv_int, ⟨by omega, h2⟩, VOk.same q r (.int _)⟩
      · cases e
  · cases e
theorem op_divD {X : Cx} : OpR X (binaryOp .FloorDiv) (fun x y H Q => rI CDivW (fun i j => .int (i / j)) x y H Q ∨ rI CDivN (fun i j => .int (i.fdiv j)) x y H Q) := op_fdivW.or op_fdivN
def modD : D → D → Option D
  | .int i, .int j => if decide (0 < j) then some (.int (i % j)) else none
  | _, _ => none
theorem o_mod : Op2 K (rI (fun _ j => 0 < j) fun i j => .int (i % j)) modD := fun {c os ρ μ σ H x y d1 d2 d Q} r p1 p2 e q => by
  unfold modD at e
  split at e
  · split at e
    · rename_i hl
      cases e
      exact ⟨_, _, p1.inv_int, p2.inv_int, of_decide_eq_true hl, VOk.same q r (.int _)⟩
    · cases e
  · cases e
def powD : D → D → Option D
  | .int i, .int j => if decide (0 ≤ j) && decide (j ≤ 1000) && small64 i then some (.int (i ^ j.toNat)) else none
  | _, _ => none
theorem o_pow : Op2 K (rI CPow fun i j => .int (i ^ j.toNat)) powD := fun {c os ρ μ σ H x y d1 d2 d Q} r p1 p2 e q => by
  unfold powD at e
  split at e
  · split at e
    · rename_i hl
      cases e
      simp only [Bool.and_eq_true, decide_eq_true_eq] at hl
      have z := small64_lt hl.2
      exact ⟨_, _, p1.inv_int, p2.inv_int, ⟨hl.1.1, by omega, by omega⟩, VOk.same q r (.int _)⟩
    · cases e
  · cases e
def negD : D → Option D
  | .int i => some (.int (-i))
  | _ => none
theorem o_neg : Op1 K (rU fun i => .int (-i)) negD := fun {c os ρ μ σ H x d1 d Q} r p1 e q => by
  unfold negD at e
  split at e
  · cases e
    exact ⟨_, p1.inv_int, VOk.same q r (.int _)⟩
  · cases e
/-! ### comparisons of ints -/
def cmpI (p : Int → Int → Bool) : D → D → Option D
  | .int i, .int j => some (.bl (p i j))
  | _, _ => none
theorem o_cmpI {p : Int → Int → Bool} : Op2 K (rI0 fun i j => .bl (p i j)) (cmpI p) := fun {c os ρ μ σ H x y d1 d2 d Q} r p1 p2 e q => by
  unfold cmpI at e
  split at e
  · cases e
    exact ⟨_, _, p1.inv_int, p2.inv_int, VOk.same q r (.bl _)⟩
  · cases e
abbrev ltD := cmpI fun i j => decide (i < j)
abbrev leD := cmpI fun i j => decide (i ≤ j)
abbrev gtD := cmpI fun i j => decide (j < i)
abbrev geD := cmpI fun i j => decide (j ≤ i)
/-! ### ==, != of data -/
mutual
def D.toPy : D → PyData
  | .non => .none
  | .bl b => .bool b
  | .int i => .int i
  | .str x => .str x
  | .tup xs => .tuple (D.toPyA xs)
  | .lst xs => .list (D.toPyA xs)
  | .scr _ => .none
  | .dk _ _ => .none
  | .dt _ _ => .none
  | .own _ => .none
def D.toPyA : List D → List PyData
  | [] => []
  | x :: xs => D.toPy x :: D.toPyA xs
end
/-- data of a depth below n -/
def D.pd : Nat → D → Bool
  | 0, _ => false
  | n + 1, d => match d with
    | .non => true
    | .bl _ => true
    | .int _ => true
    | .str _ => true
    | .tup xs => xs.all (D.pd n)
    | .lst xs => xs.all (D.pd n)
    | .scr _ => false
    | .dk _ _ => false
    | .dt _ _ => false
    | .own _ => false
def D.eqv (a b : D) : Bool := PyData.eqv a.toPy b.toPy
theorem py_all {n : Nat} (ih : ∀ (d : D) (v : V), D.pd n d = true → Rp K T Hv v d → Dp K H v d.toPy ∧ d.toPy.canLay0 = true ∧ d.toPy.depth ≤ n) : ∀ (ds : List D) (vs : List V), ds.all (D.pd n) = true → RpA K T Hv vs ds → DpAll K H vs (D.toPyA ds) ∧ PyData.canLayAll0 (D.toPyA ds) = true ∧ PyData.depthAll (D.toPyA ds) ≤ n
  | [], _, _, h => by
    cases h
    exact ⟨.nil, by simp [D.toPyA, PyData.canLayAll0], by simp [D.toPyA, PyData.depthAll]⟩
  | d :: ds, _, hp, h => by
    cases h with
    | cons q r =>
      rw [List.all_cons, Bool.and_eq_true] at hp
      obtain ⟨h1, h2, h3⟩ := ih d _ hp.1 q
      obtain ⟨k1, k2, k3⟩ := py_all ih ds _ hp.2 r
      refine ⟨.cons h1 k1, by simp [D.toPyA, PyData.canLayAll0, h2, k2], ?_⟩
      simp only [D.toPyA, PyData.depthAll]
      omega
theorem py_of (e : Exts Hv H) : ∀ (n : Nat) (d : D) (v : V), D.pd n d = true → Rp K T Hv v d → Dp K H v d.toPy ∧ d.toPy.canLay0 = true ∧ d.toPy.depth ≤ n
  | 0, d, v, h, _ => by simp [D.pd] at h
  | n + 1, d, v, h, r => by
    cases d with
    | non => rw [r.inv_non]; exact ⟨by simp only [D.toPy]; exact .non, by simp [D.toPy, PyData.canLay0], by simp [D.toPy, PyData.depth]⟩
    | bl b => rw [r.inv_bl]; exact ⟨by simp only [D.toPy]; exact .bl b, by simp [D.toPy, PyData.canLay0], by simp [D.toPy, PyData.depth]⟩
    | int b => rw [r.inv_int]; exact ⟨by simp only [D.toPy]; exact .int b, by simp [D.toPy, PyData.canLay0], by simp [D.toPy, PyData.depth]⟩
    | str b =>
      obtain ⟨z, k⟩ := r.inv_str
      rw [z]
      exact ⟨by simp only [D.toPy]; exact .str b, by simp only [D.toPy, PyData.canLay0]; exact k, by simp [D.toPy, PyData.depth]⟩
    | tup xs =>
      obtain ⟨a, vs, rfl, h1, h2⟩ := r.inv_tup
      have hx : xs.all (D.pd n) = true := h
      obtain ⟨k1, k2, k3⟩ := py_all (py_of e n) xs vs hx h2
      refine ⟨by simp only [D.toPy]; exact .tup (e.sqT h1) k1, by simp only [D.toPy, PyData.canLay0]; exact k2, ?_⟩
      simp only [D.toPy, PyData.depth]
      omega
    | lst xs =>
      obtain ⟨a, vs, rfl, h1, h2⟩ := r.inv_lst
      have hx : xs.all (D.pd n) = true := h
      obtain ⟨k1, k2, k3⟩ := py_all (py_of e n) xs vs hx h2
      refine ⟨by simp only [D.toPy]; exact .lst (.inl (.inl (e _ _ h1))) k1, by simp only [D.toPy, PyData.canLay0]; exact k2, ?_⟩
      simp only [D.toPy, PyData.depth]
      omega
    | scr xs => simp [D.pd] at h
    | dk xs ys => simp [D.pd] at h
    | dt xs ys => simp [D.pd] at h
    | own m => simp [D.pd] at h
def eqD (a b : D) : Option D := if D.pd 60 a && D.pd 60 b then some (.bl (D.eqv a b)) else none
def neD (a b : D) : Option D := if D.pd 60 a && D.pd 60 b then some (.bl (!D.eqv a b)) else none
theorem shaped_of {p : PyData} (h1 : p.canLay0 = true) (h2 : p.depth ≤ 60) : SeqAt.shaped p = true := by
  unfold SeqAt.shaped
  rw [h1, Bool.true_and]
  exact decide_eq_true (by omega)
theorem o_eq : Op2 K (rEqD K) eqD := fun {c os ρ μ σ H x y d1 d2 d Q} r p1 p2 e q => by
  unfold eqD at e
  split at e
  · rename_i hl
    cases e
    rw [Bool.and_eq_true] at hl
    obtain ⟨a1, a2, a3⟩ := py_of vw_le _ _ _ hl.1 p1
    obtain ⟨b1, b2, b3⟩ := py_of vw_le _ _ _ hl.2 p2
    exact ⟨_, _, a1, b1, shaped_of a2 a3, shaped_of b2 b3, VOk.same q r (.bl _)⟩
  · cases e
theorem o_ne : Op2 K (rNeD K) neD := fun {c os ρ μ σ H x y d1 d2 d Q} r p1 p2 e q => by
  unfold neD at e
  split at e
  · rename_i hl
    cases e
    rw [Bool.and_eq_true] at hl
    obtain ⟨a1, a2, a3⟩ := py_of vw_le _ _ _ hl.1 p1
    obtain ⟨b1, b2, b3⟩ := py_of vw_le _ _ _ hl.2 p2
    exact ⟨_, _, a1, b1, shaped_of a2 a3, shaped_of b2 b3, VOk.same q r (.bl _)⟩
  · cases e
/-! ### is None -/
def D.isNon : D → Bool
  | .non => true
  | _ => false
def isN (a b : D) : Option D := match b with
  | .non => some (.bl a.isNon)
  | _ => none
def notN (a b : D) : Option D := match b with
  | .non => some (.bl (!a.isNon))
  | _ => none
theorem Rp.isNon {v : V} {d : D} (h : Rp K T Hv v d) : decide (v = .non) = d.isNon := by
  cases h <;> simp [D.isNon]
theorem o_isN : Op2 K (fun x y H Q => y = .non ∧ Q (.bl (decide (x = .non))) H) isN := fun {c os ρ μ σ H x y d1 d2 d Q} r p1 p2 e q => by
  unfold isN at e
  split at e
  · cases e
    refine ⟨p2.inv_non, ?_⟩
    rw [p1.isNon]
    exact VOk.same q r (.bl _)
  · cases e
theorem o_notN : Op2 K (fun x y H Q => y = .non ∧ Q (.bl (!decide (x = .non))) H) notN := fun {c os ρ μ σ H x y d1 d2 d Q} r p1 p2 e q => by
  unfold notN at e
  split at e
  · cases e
    refine ⟨p2.inv_non, ?_⟩
    rw [p1.isNon]
    exact VOk.same q r (.bl _)
  · cases e
/-! ### in, not in -/
def D.flat : D → Bool
  | .non => true
  | .bl _ => true
  | .int _ => true
  | .str _ => true
  | _ => false
theorem flat_V {v : V} {d : D} (h : Rp K T Hv v d) (f : d.flat = true) : flatV v = true := by
  cases h <;> first | rfl | cases f
theorem flat_all : ∀ {ds : List D} {vs : List V}, RpA K T Hv vs ds → ds.all D.flat = true → vs.all flatV = true
  | [], _, h, _ => by cases h; rfl
  | d :: ds, _, h, f => by
    cases h with
    | cons q r =>
      rw [List.all_cons, Bool.and_eq_true] at f ⊢
      exact ⟨flat_V q f.1, flat_all r f.2⟩
theorem flat_eq {v w : V} {d e : D} (h : Rp K T Hv v d) (k : Rp K T Hv w e) (f : d.flat = true) (g : e.flat = true) : eqV v w = D.eqv d e := by
  cases h <;> first | (cases f; done) | (cases k <;> first | (cases g; done) | (simp [eqV, D.eqv, D.toPy, PyData.eqv]; done))
theorem flat_any {w : V} {e : D} (k : Rp K T Hv w e) (g : e.flat = true) : ∀ {ds : List D} {vs : List V}, RpA K T Hv vs ds → ds.all D.flat = true → inV w vs = ds.any fun z => D.eqv z e
  | [], _, h, _ => by cases h; rfl
  | d :: ds, _, h, f => by
    cases h with
    | cons q r =>
      rw [List.all_cons, Bool.and_eq_true] at f
      have ih := flat_any k g r f.2
      unfold inV at ih ⊢
      rw [List.any_cons, List.any_cons, ih, flat_eq q k f.1 g]
def inSq (n : Bool) (a b : D) : Option D := match b with
  | .lst ys => if a.flat && ys.all D.flat then some (.bl (if n then !(ys.any fun z => D.eqv z a) else ys.any fun z => D.eqv z a)) else none
  | .tup ys => if a.flat && ys.all D.flat then some (.bl (if n then !(ys.any fun z => D.eqv z a) else ys.any fun z => D.eqv z a)) else none
  | _ => none
theorem o_inSq {n : Bool} : Op2 K (rIn K n) (inSq n) := fun {c os ρ μ σ H x y d1 d2 d Q} r p1 p2 e q => by
  unfold inSq at e
  split at e
  · split at e
    · rename_i hl
      cases e
      rw [Bool.and_eq_true] at hl
      obtain ⟨a, vs, rfl, h1, k1⟩ := p2.inv_lst
      refine ⟨a, vs, rfl, .inl (.inl (.inl (vw_le _ _ h1))), flat_V p1 hl.1, flat_all k1 hl.2, ?_⟩
      rw [flat_any p1 hl.1 k1 hl.2]
      exact VOk.same q r (.bl _)
    · cases e
  · split at e
    · rename_i hl
      cases e
      rw [Bool.and_eq_true] at hl
      obtain ⟨a, vs, rfl, h1, k1⟩ := p2.inv_tup
      refine ⟨a, vs, rfl, .inr (vw_le.sqT h1), flat_V p1 hl.1, flat_all k1 hl.2, ?_⟩
      rw [flat_any p1 hl.1 k1 hl.2]
      exact VOk.same q r (.bl _)
    · cases e
  · cases e
def inStr (a b : D) : Option D := match a, b with
  | .str x, .str y => some (.bl (!(Builtin.Str.occurrences y x 0 y.length 1).isEmpty))
  | _, _ => none
theorem o_inStr : Op2 K (fun x y H Q => ∃ i j, x = .str i ∧ y = .str j ∧ Q (.bl (!(Builtin.Str.occurrences j i 0 j.length 1).isEmpty)) H) inStr := fun {c os ρ μ σ H x y d1 d2 d Q} r p1 p2 e q => by
  unfold inStr at e
  split at e
  · cases e
    exact ⟨_, _, p1.inv_str.1, p2.inv_str.1, VOk.same q r (.bl _)⟩
  · cases e
end
end DC
set_option Elab.async false
set_option linter.all false
set_option maxRecDepth 100000
set_option maxHeartbeats 2000000
/-! DC: lending, subscripts, slices, built-ins. -/
namespace DC
open PySem PySem.Spec PyProof.Rows L2
/-! ### an own container lent to an expression -/
/-- a value in which no container stands that could be changed -/
def D.lf : Nat → D → Bool
  | 0, _ => false
  | n + 1, d => match d with
    | .non => true
    | .bl _ => true
    | .int _ => true
    | .str _ => true
    | .tup xs => xs.all (D.lf n)
    | .own _ => true
    | _ => false
def xBor (i : Nat) (f : XD) : XD := fun ρ μ => match ρ[i]? with
  | some (.ow d) => (f (ρ.set i (.fz d)) μ).bind fun r μ' => if D.lf 8 r then .ok r μ' else .fail
  | _ => f ρ μ
def bBor (i : Nat) (f : XB) : XB := fun ρ μ => match ρ[i]? with
  | some (.ow d) => f (ρ.set i (.fz d)) μ
  | _ => f ρ μ
section
variable {K : PySem.W.Frag} {cl : Nat → Addr} {W : WX} {c : Ct} {os : List (Option Addr)} {ρ : Env} {μ : Store} {σ : L2.St} {H H' : Hp} {Q : VK} {d : D} {x : Exn}
theorem sqT_ne {Hv Hw : Hp} {a : Addr} (hn : ∀ b o, Hv b = some o → b ≠ a → Hw b = some o) (ha : ∀ xs o, Hv a ≠ some (.tup xs) ∧ Hv a ≠ some (.frz o (.tup xs))) {b : Addr} {xs : List V} (h : SqT K Hv b xs) : SqT K Hw b xs := by
  rcases h with (h | ⟨o, h⟩) | h
  · exact .inl (.inl (hn _ _ h fun z => by subst z; exact (ha xs default).1 h))
  · exact .inl (.inr ⟨o, hn _ _ h fun z => by subst z; exact (ha xs o).2 h⟩)
  · exact .inr h
theorem lf_all {Hv Hw : Hp} {T : List Addr} {n : Nat} (ih : ∀ (d : D) (v : V), D.lf n d = true → Rp K T Hv v d → Rp K T Hw v d) : ∀ (ds : List D) (vs : List V), ds.all (D.lf n) = true → RpA K T Hv vs ds → RpA K T Hw vs ds
  | [], _, _, h => by cases h; exact .nil
  | d :: ds, _, f, h => by
    cases h with
    | cons q r =>
      rw [List.all_cons, Bool.and_eq_true] at f
      exact .cons (ih d _ f.1 q) (lf_all ih ds _ f.2 r)
theorem lf_rp {Hv Hw : Hp} {T : List Addr} (ht : ∀ b xs, SqT K Hv b xs → SqT K Hw b xs) : ∀ (n : Nat) (d : D) (v : V), D.lf n d = true → Rp K T Hv v d → Rp K T Hw v d
  | 0, _, _, f, _ => by simp [D.lf] at f
  | n + 1, d, v, f, h => by
    cases d with
    | non => cases h; exact .non
    | bl b => cases h; exact .bl b
    | int b => cases h; exact .int b
    | str b => cases h with | str q => exact .str q
    | tup xs =>
      obtain ⟨a, vs, rfl, h1, h2⟩ := h.inv_tup
      have fx : xs.all (D.lf n) = true := f
      exact .tup (ht _ _ h1) (lf_all (lf_rp ht n) xs vs fx h2)
    | lst xs => simp [D.lf] at f
    | scr xs => simp [D.lf] at f
    | dk xs ys => simp [D.lf] at f
    | dt xs ys => simp [D.lf] at f
    | own m => cases h with | own q => exact .own q
theorem own_noTup {Hv : Hp} {a : Addr} {T : List Addr} (h : OwAt K T Hv H a d) (xs : List V) (o : Obj) : H a ≠ some (.tup xs) ∧ H a ≠ some (.frz o (.tup xs)) := by
  cases h with
  | lst h _ => rw [h]; exact ⟨(by intro z; cases z), (by intro z; cases z)⟩
  | dk h _ _ => rw [h]; exact ⟨(by intro z; cases z), (by intro z; cases z)⟩
  | dt h _ _ => rw [h]; exact ⟨(by intro z; cases z), (by intro z; cases z)⟩
theorem lent (r : Rl K c os ρ μ σ H) {i : Nat} (h : ρ[i]? = some (.ow d)) {μ' : Store} (q : Rl K c (os.set i none) (ρ.set i (.fz d)) μ' σ H') (k : Kp c H H') {n : Nat} {e : D} {v : V} (f : D.lf n e = true) (p : Rp K c.T (vw c (os.set i none) H') v e) : Rp K c.T (vw c os H') v e := by
  obtain ⟨a, h1, h2, h3⟩ := r.getOw h
  have hm : some a ∈ os := List.mem_of_getElem? h2
  have nT := (r.own a hm).1
  refine lf_rp (fun b xs hb => sqT_ne (a := a) (fun b o hb nb => ?_) (fun xs o => ?_) hb) n e v f p
  · obtain ⟨g1, g2, g3, g4⟩ := vw_some.mp hb
    refine vw_some.mpr ⟨g1, g2, g3, fun z => g4 ?_⟩
    obtain ⟨j, hj⟩ := List.getElem?_of_mem z
    have nj : i ≠ j := fun e => by
      subst e
      rw [h2] at hj
      exact nb (Option.some.inj (Option.some.inj hj)).symm
    exact List.mem_of_getElem? (i := j) (by rw [List.getElem?_set_ne nj]; exact hj)
  · obtain ⟨o', ho⟩ := h3.there
    have z := own_noTup h3 xs o
    have ha' : H' a = H a := by rw [ho]; exact k a o' ho nT
    refine ⟨fun w => z.1 ?_, fun w => z.2 ?_⟩
    · rw [← ha']; exact vw_le _ _ w
    · rw [← ha']; exact vw_le _ _ w
theorem EOk.reown (r : Rl K c os ρ μ σ H) {i : Nat} {μ1 : Store} (h : EOk K cl W c os ρ σ H x μ1) (hp : x.pay = none) : EOk K cl W c (os.set i none) (ρ.set i (.fz d)) σ H x μ1 := fun e dx H' q k ex => h e dx H' (r.reown q k) k (by
  unfold ExAt at ex ⊢
  rw [hp] at ex ⊢
  exact ex)
end
section
variable {X : Cx} {cl : Nat → Addr} {W : WX} {e : Expr} {f : XD} {t : XB}
/-- exceptions out of it must bear nothing -/
def Plain {α : Type} (f : Env → Store → Res α) : Prop := ∀ ρ μ x μ', f ρ μ = .exc x μ' → x.pay = none
theorem dBor {i : Nat} (h : PE X e (tE X.K cl W f)) (hp : Plain f) : PE X e (tE X.K cl W (xBor i f)) := pe_imp h fun σ H Q => by
  rintro ⟨c, os, ρ, μ, r, h⟩
  unfold xBor at h
  split at h
  · rename_i d e0
    refine ⟨c, os.set i none, ρ.set i (.fz d), μ, r.freeze e0, ?_⟩
    have h' := Out.bind h
    cases ef : f (ρ.set i (.fz d)) μ with
    | fail => rw [ef] at h'; exact h'
    | exc x μ1 => rw [ef] at h'; exact EOk.reown r h' (hp _ _ _ _ ef)
    | ok d1 μ1 =>
      rw [ef] at h'
      by_cases hl : D.lf 8 d1 = true
      · have h2 : Out (if D.lf 8 d1 then Res.ok d1 μ1 else .fail) (VOk X.K c os ρ σ H Q) (EOk X.K cl W c os ρ σ H) := h'
        rw [if_pos hl] at h2
        intro v1 H1 r1 e1 p1
        exact h2 v1 H1 (r.reown r1 e1) e1 (lent r e0 r1 e1 hl p1)
      · have h2 : Out (if D.lf 8 d1 then Res.ok d1 μ1 else .fail) (VOk X.K c os ρ σ H Q) (EOk X.K cl W c os ρ σ H) := h'
        rw [if_neg hl] at h2
        exact False.elim h2
  · exact ⟨c, os, ρ, μ, r, h⟩
theorem bBorE {i : Nat} (h : PT X e (tT X.K cl W t)) (hp : Plain t) : PT X e (tT X.K cl W (bBor i t)) := pt_imp h fun σ H Q => by
  rintro ⟨c, os, ρ, μ, r, h⟩
  unfold bBor at h
  split at h
  · rename_i d e0
    refine ⟨c, os.set i none, ρ.set i (.fz d), μ, r.freeze e0, ?_⟩
    cases ef : t (ρ.set i (.fz d)) μ with
    | fail => rw [ef] at h; exact h
    | exc x μ1 => rw [ef] at h; exact EOk.reown r h (hp _ _ _ _ ef)
    | ok d1 μ1 =>
      rw [ef] at h
      intro H1 r1 e1
      exact h H1 (r.reown r1 e1) e1
  · exact ⟨c, os, ρ, μ, r, h⟩
end
/-! ### subscripts -/
def ixD (a i : D) : Option D := match i with
  | .int k => match a with
    | .tup xs => atI xs k
    | .lst xs => atI xs k
    | .scr ns => (atI ns k).map D.int
    | .str z => if Nat.ble z.length 1000000 then (atI z.cps.toList k).bind fun c => if Nat.blt c 1114112 then some (.str ⟨#[c]⟩) else none else none
    | _ => none
  | _ => none
def ixS (μ : Store) (a i : D) : Option D := match a with
  | .own n => match i with
    | .int k => (μ[n]?).bind fun ns => (atI ns k).map D.int
    | _ => none
  | _ => ixD a i
def xIx (f1 f2 : XD) : XD := fun ρ μ => (f1 ρ μ).bind fun a μ1 => (f2 ρ μ1).bind fun b μ2 => Res.ofO (ixS μ2 a b) μ2
section
variable {K : PySem.W.Frag} {T : List Addr} {H Hv : Hp}
theorem atI_some {α : Type} {xs : List α} {k : Int} {x : α} (h : atI xs k = some x) : ∃ j, ixN xs.length k = some j ∧ xs[j]? = some x := by
  unfold atI at h
  obtain ⟨j, h1, h2⟩ := Option.bind_eq_some_iff.mp h
  exact ⟨j, h1, h2⟩
theorem RpA.atI {vs : List V} {ds : List D} (r : RpA K T H vs ds) {k : Int} {d : D} (h : L2.atI ds k = some d) : ∃ v, L2.atI vs k = some v ∧ Rp K T H v d := by
  obtain ⟨j, h1, h2⟩ := atI_some h
  obtain ⟨v, h3, h4⟩ := r.get h2
  refine ⟨v, ?_, h4⟩
  unfold L2.atI
  rw [r.length, h1]
  exact h3
theorem atI_map {α β : Type} (f : α → β) {xs : List α} {k : Int} : L2.atI (xs.map f) k = (L2.atI xs k).map f := by
  unfold L2.atI
  rw [List.length_map]
  cases ixN xs.length k with
  | none => rfl
  | some j => simp
end
section
variable {X : Cx} {cl : Nat → Addr} {W : WX} {a b : Expr} {f1 f2 : XD} {pos : Pos}
theorem dIx (ha : PE X a (tE X.K cl W f1)) (hb : PE X b (tE X.K cl W f2)) (hs : PlainIx b) : PE X (.Subscript a b pos) (tE X.K cl W (xIx f1 f2)) := pe_imp (pe_ix ix_seq ha hb hs) fun σ H Q => by
  rintro ⟨c, os, ρ, μ, r, h⟩
  refine ⟨c, os, ρ, μ, r, (Out.bind h).imp (fun d1 μ1 h1 => ?_) fun _ _ q => q⟩
  intro v1 H1 r1 e1 p1
  refine ⟨c, os, ρ, μ1, r1, (Out.bind h1).imp (fun d2 μ2 h2 => ?_) fun _ _ q => q.mono e1⟩
  intro v2 H2 r2 e2 p2
  obtain ⟨d, e, h3⟩ := Out.ofO h2
  have q3 := VOk.mono (e1.trans e2) h3
  have p1 := p1.mono e2.vw
  cases d1 with
  | own n =>
    cases d2 with
    | int k =>
      obtain ⟨ns, e3, e4⟩ := Option.bind_eq_some_iff.mp (show (μ2[n]?).bind (fun ns => (atI ns k).map D.int) = some d from e)
      obtain ⟨z, e5, e6⟩ := Option.map_eq_some_iff.mp e4
      subst e6
      obtain ⟨p, hv, hp⟩ := p1.inv_own
      subst hv
      refine .inl ⟨p, ns.map V.int, k, .int z, rfl, p2.inv_int, .inl (.inl (r2.st n p ns hp e3)), ?_, VOk.same q3 r2 (.int z)⟩
      rw [atI_map, e5]
      rfl
    | _ => cases e
  | tup xs =>
    cases d2 with
    | int k =>
      have z2 := p2.inv_int
      subst z2
      obtain ⟨p, vs, hv, g1, g2⟩ := p1.inv_tup
      subst hv
      obtain ⟨v, g3, g4⟩ := g2.atI (show atI xs k = some d from e)
      exact .inr (.inl ⟨p, vs, k, v, rfl, rfl, vw_le.sqT g1, g3, VOk.same q3 r2 g4⟩)
    | _ => cases e
  | lst xs =>
    cases d2 with
    | int k =>
      have z2 := p2.inv_int
      subst z2
      obtain ⟨p, vs, hv, g1, g2⟩ := p1.inv_lst
      subst hv
      obtain ⟨v, g3, g4⟩ := g2.atI (show atI xs k = some d from e)
      exact .inl ⟨p, vs, k, v, rfl, rfl, .inl (.inl (vw_le _ _ g1)), g3, VOk.same q3 r2 g4⟩
    | _ => cases e
  | scr ns =>
    cases d2 with
    | int k =>
      have z2 := p2.inv_int
      subst z2
      obtain ⟨z, e5, e6⟩ := Option.map_eq_some_iff.mp (show (atI ns k).map D.int = some d from e)
      subst e6
      obtain ⟨p, hv, g1⟩ := p1.inv_scr
      subst hv
      refine .inl ⟨p, ns.map V.int, k, .int z, rfl, rfl, vw_le.sqL g1, ?_, VOk.same q3 r2 (.int z)⟩
      rw [atI_map, e5]
      rfl
    | _ => cases e
  | str z =>
    cases d2 with
    | int k =>
      have z2 := p2.inv_int
      subst z2
      have e' : (if Nat.ble z.length 1000000 then (atI z.cps.toList k).bind fun c => if Nat.blt c 1114112 then some (D.str ⟨#[c]⟩) else none else none) = some d := e
      by_cases hl : Nat.ble z.length 1000000 = true
      · rw [if_pos hl] at e'
        obtain ⟨ch, e5, e6⟩ := Option.bind_eq_some_iff.mp e'
        by_cases hc : Nat.blt ch 1114112 = true
        · rw [if_pos hc] at e6
          cases e6
          refine .inr (.inr ⟨z, k, ch, p1.inv_str.1, rfl, ble_line hl, e5, VOk.same q3 r2 (.str ?_)⟩)
          unfold strOk
          simp
          exact Nat.le_of_ble_eq_true hc
        · rw [if_neg hc] at e6
          cases e6
      · rw [if_neg hl] at e'
        cases e'
    | _ => cases e
  | _ => cases d2 <;> cases e
end
/-! ### slices -/
def cutD (xs : List D) (lo hi : Option Int) : List D := (xs.drop (HT.sIx xs.length 0 lo)).take (HT.sIx xs.length xs.length hi - HT.sIx xs.length 0 lo)
def oNone : Env → Store → Res (Option Int) := fun _ μ => .ok none μ
def oSome (f : XD) : Env → Store → Res (Option Int) := fun ρ μ => (f ρ μ).bind fun d μ' => match d with
  | .int i => .ok (some i) μ'
  | _ => .fail
def slT (a : D) (lo hi : Option Int) : Option D := match a with
  | .tup xs => some (.tup (cutD xs lo hi))
  | .str z => if Nat.ble z.length 1000000 then some (.str (cutS z lo hi)) else none
  | .lst xs => some (.lst (cutD xs lo hi))
  | _ => none
def xSl (f : XD) (l h : Env → Store → Res (Option Int)) : XD := fun ρ μ => (f ρ μ).bind fun a μ1 => (l ρ μ1).bind fun lo μ2 => (h ρ μ2).bind fun hi μ3 => Res.ofO (slT a lo hi) μ3
def tO (K : PySem.W.Frag) (cl : Nat → Addr) (W : WX) (f : Env → Store → Res (Option Int)) : TO := fun σ H Q => ∃ c os ρ μ, Rl K c os ρ μ σ H ∧ Out (f ρ μ) (fun b μ' => ∀ H', Rl K c os ρ μ' σ H' → Kp c H H' → Q b H') (EOk K cl W c os ρ σ H)
theorem RpA.cut {K : PySem.W.Frag} {T : List Addr} {H : Hp} {vs : List V} {ds : List D} (r : RpA K T H vs ds) (lo hi : Option Int) : RpA K T H (cutV vs lo hi) (cutD ds lo hi) := by
  unfold cutV cutD
  rw [r.length]
  exact (r.drop _).take _
theorem arr_all_take {p : Nat → Bool} {xs : List Nat} (h : xs.all p = true) (i j : Nat) : ((xs.drop i).take j).all p = true := by
  rw [List.all_eq_true] at h ⊢
  intro x hx
  exact h x (List.mem_of_mem_drop (List.mem_of_mem_take hx))
theorem strOk_iff {x : Str} : strOk x = true ↔ x.cps.toList.all (· < 0x110000) = true := by
  unfold strOk
  rw [← Array.all_toList]
theorem po_imp {X : Cx} {e : Option Expr} {t t' : TO} (h : PO X e t) (i : ∀ σ H Q, t' σ H Q → t σ H Q) : PO X e t' := ⟨fun pins s σ H Q I q => h.run pins s σ H Q I (i σ H Q q)⟩
section
variable {X : Cx} {cl : Nat → Addr} {W : WX} {e : Expr} {f : XD} {pos p2 : Pos}
theorem dONone : PO X none (tO X.K cl W oNone) := po_imp po_none fun σ H Q => by
  rintro ⟨c, os, ρ, μ, r, h⟩
  exact h H r (Kp.refl _ _)
theorem dOSome (h : PE X e (tE X.K cl W f)) : PO X (some e) (tO X.K cl W (oSome f)) := po_imp (po_some h) fun σ H Q => by
  rintro ⟨c, os, ρ, μ, r, h⟩
  refine ⟨c, os, ρ, μ, r, (Out.bind h).imp (fun d1 μ1 h1 => ?_) fun _ _ q => q⟩
  intro v1 H1 r1 e1 p1
  cases d1 with
  | int i =>
    have z := p1.inv_int
    subst z
    exact ⟨i, rfl, h1 H1 r1 e1⟩
  | _ => exact False.elim h1
end
end DC
set_option Elab.async false
set_option linter.all false
set_option maxRecDepth 100000
set_option maxHeartbeats 2000000
/-! DC: slices taken, isinstance, built-ins by values. -/
namespace DC
open PySem PySem.Spec PyProof.Rows L2
section
variable {X : Cx} {cl : Nat → Addr} {W : WX} {e : Expr} {f : XD} {pos p2 : Pos} {lo hi : Option Expr} {fl fh : Env → Store → Res (Option Int)}
theorem cutS_ok {z : Str} (h : strOk z = true) (lo hi : Option Int) : strOk (cutS z lo hi) = true := by
  rw [strOk_iff] at h ⊢
  exact arr_all_take h _ _
theorem dSl (he : PE X e (tE X.K cl W f)) (hl : PO X lo (tO X.K cl W fl)) (hh : PO X hi (tO X.K cl W fh)) : PE X (.Subscript e (.Slice lo hi none p2) pos) (tE X.K cl W (xSl f fl fh)) := pe_imp (pe_slice (sl_list.or (sl_tupA.or sl_str)) he hl hh) fun σ H Q => by
  rintro ⟨c, os, ρ, μ, r, h⟩
  refine ⟨c, os, ρ, μ, r, (Out.bind h).imp (fun d1 μ1 h1 => ?_) fun _ _ q => q⟩
  intro v1 H1 r1 e1 p1
  refine ⟨c, os, ρ, μ1, r1, (Out.bind h1).imp (fun l μ2 h2 => ?_) fun _ _ q => q.mono e1⟩
  intro H2 r2 e2
  refine ⟨c, os, ρ, μ2, r2, (Out.bind h2).imp (fun u μ3 h3 => ?_) fun _ _ q => q.mono (e1.trans e2)⟩
  intro H3 r3 e3
  obtain ⟨d, e, h4⟩ := Out.ofO h3
  have q := VOk.mono ((e1.trans e2).trans e3) h4
  have p := p1.mono (e2.trans e3).vw
  unfold slT at e
  split at e
  · rename_i xs
    cases e
    obtain ⟨a, vs, hv, g1, g2⟩ := p.inv_tup
    subst hv
    refine .inr (.inl ⟨a, vs, rfl, vw_le.sqT g1, fun z => ?_, fun _ p n => VOk.newT q r3 (g2.cut l u) n⟩)
    have ec : cutD xs l u = xs := by
      unfold cutD
      rw [← g2.length, z.1, z.2, List.drop_zero, Nat.sub_zero, g2.length, List.take_length]
    rw [ec] at q
    exact VOk.same q r3 (.tup g1 g2)
  · split at e
    · rename_i hl
      cases e
      obtain ⟨z1, z2⟩ := p.inv_str
      exact .inr (.inr ⟨_, z1, ble_line hl, VOk.same q r3 (.str (cutS_ok z2 _ _))⟩)
    · cases e
  · cases e
    obtain ⟨a, vs, hv, g1, g2⟩ := p.inv_lst
    subst hv
    exact .inl ⟨a, vs, rfl, .inl (.inl (vw_le _ _ g1)), fun p n => VOk.newL q r3 (g2.cut l u) n⟩
  · cases e
end
/-! ### isinstance -/
/-- the name of a value's class -/
def D.cn : D → String
  | .non => "NoneType"
  | .bl _ => "bool"
  | .int _ => "int"
  | .str _ => "str"
  | .tup _ => "tuple"
  | .lst _ => "list"
  | .scr _ => "list"
  | .dk _ _ => "dict"
  | .dt _ _ => "dict"
  | .own _ => "list"
inductive Ty where
  | bool | int | str | tuple | list | dict
def Ty.nm : Ty → String
  | .bool => "bool"
  | .int => "int"
  | .str => "str"
  | .tuple => "tuple"
  | .list => "list"
  | .dict => "dict"
def Ty.has : Ty → D → Bool
  | .bool, .bl _ => true
  | .int, .int _ => true
  | .int, .bl _ => true
  | .str, .str _ => true
  | .tuple, .tup _ => true
  | .list, .lst _ => true
  | .list, .scr _ => true
  | .list, .own _ => true
  | .dict, .dk _ _ => true
  | .dict, .dt _ _ => true
  | _, _ => false
def Ty.nms (t : Ty) (s : String) : Bool := match t with
  | .bool => s == "bool"
  | .int => s == "int" || s == "bool"
  | .str => s == "str"
  | .tuple => s == "tuple"
  | .list => s == "list"
  | .dict => s == "dict"
theorem Ty.has_nms (t : Ty) (d : D) : t.has d = t.nms d.cn := by cases t <;> cases d <;> rfl
theorem kit_all : ∀ (t : Ty) (s : String), s ∈ ["NoneType", "bool", "int", "str", "tuple", "list", "dict"] → kitB s t.nm = some (t.nms s) := by
  intro t s hs
  simp only [List.mem_cons, List.not_mem_nil, or_false] at hs
  rcases hs with h | h | h | h | h | h | h <;> subst h <;> cases t <;> decide +kernel
theorem D.cn_mem (d : D) : d.cn ∈ ["NoneType", "bool", "int", "str", "tuple", "list", "dict"] := by cases d <;> simp [D.cn]
/-- all values but dicts with tuple keys -/
def isiD (t : Ty) (d : D) : Option D := match d with
  | .dt _ _ => none
  | _ => some (.bl (t.has d))
section
variable {X : Cx} {cl : Nat → Addr} {W : WX} {e : Expr} {f : XD} {pos p p2 : Pos} {x : Str}
theorem tyX_of' {K : PySem.W.Frag} {c : Ct} {os : List (Option Addr)} {ρ : Env} {μ : Store} {σ : L2.St} {H : Hp} (r : Rl K c os ρ μ σ H) {v : V} {d : D} (p : Rp K c.T (vw c os H) v d) (nf : ∀ ks vs, d ≠ .dt ks vs) : TyX K H v (.type d.cn) := by
  cases p with
  | dt h _ _ => exact absurd rfl (nf _ _)
  | non => exact .base .non
  | bl b => exact .base (.bl b)
  | int i => exact .base (.int i)
  | str _ => exact .base (.str _)
  | tup h _ =>
    rcases h with (h | ⟨o, h⟩) | ⟨o, its, n, h1, h2, _⟩
    · exact .base (.tup (vw_le _ _ h))
    · exact .fTuple (vw_le _ _ h)
    · exact .kTuple h1 h2
  | lst h _ => exact .base (.lst (vw_le _ _ h))
  | scr h =>
    rcases h with (h | ⟨o, h⟩) | ⟨o, its, n, h1, h2, _⟩
    · exact .base (.lst (vw_le _ _ h))
    · exact .base (.frz (vw_le _ _ h))
    · exact .kList h1 h2
  | dk h _ _ =>
    rcases h with h | ⟨o, h⟩
    · exact .base (.dK (vw_le _ _ h))
    · exact .fDict (vw_le _ _ h)
  | own h =>
    have hm : _ ∈ c.T := List.mem_of_getElem? h
    obtain ⟨i, hi⟩ := List.getElem?_of_mem hm
    have hlt : i < c.T.length := (List.getElem?_eq_some_iff.mp hi).1
    have h1 : i < μ.length := by rw [r.sm]; exact hlt
    exact .base (.lst (r.st i _ _ hi (List.getElem?_eq_getElem h1)))
theorem dIsi (t : Ty) (hg : Gl X "isinstance") (hm : X.mg "isinstance" = none) (hgt : Gl X x) (hmt : X.mg x = none) (hv : bootBuiltins x = some (.type t.nm)) (he : PE X e (tE X.K cl W f)) (hn : x ≠ "__name__" := by decide) (hdb : (x == ("__debug__" : Str)) = false := by decide)
    (hs : starEach [e, .Name x p2] X.env = (false, eval e X.env) :: starEach [.Name x p2] X.env := by rfl) (hpl : (backTo pos (starEach [.Name x p2] X.env)).any (·.1) = false := by rfl) :
    PE X (.Call (.Name "isinstance" p) [e, .Name x p2] [] pos) (tE X.K cl W (xUn (isiD t) f)) :=
  pe_imp (pe_callB call_isi hg hm (by decide +kernel) (pa_cons he (pa_cons (pe_bltn (v := .ty t.nm) hgt hmt hv rfl hn hdb) pa_nil rfl) hs) (by decide) (by decide) hs hpl) fun σ H Q => by
  rintro ⟨c, os, ρ, μ, r, h⟩
  refine ⟨c, os, ρ, μ, r, (Out.bind h).imp (fun d1 μ1 h1 => ?_) fun _ _ q => q⟩
  intro v1 H1 r1 e1 p1
  obtain ⟨d, e, h3⟩ := Out.ofO h1
  have q := VOk.mono e1 h3
  have nd : ∀ ks vs, d1 ≠ .dt ks vs := fun ks vs z => by subst z; cases e
  have e' : d = .bl (t.has d1) := by
    unfold isiD at e
    split at e
    · cases e
    · exact (Option.some.inj e).symm
  subst e'
  refine ⟨v1, .ty t.nm, .type d1.cn, .type t.nm, t.has d1, rfl, .ty _, tyX_of' r1 p1 nd, kit_ty (by rw [Ty.has_nms]; exact kit_all t _ (D.cn_mem d1)), VOk.same q r1 (.bl _)⟩
end
/-! ### built-ins -/
section
variable {K : PySem.W.Frag}
theorem RpA.one {T : List Addr} {H : Hp} {vs : List V} {d : D} (h : RpA K T H vs [d]) : ∃ v, vs = [v] ∧ Rp K T H v d := by
  cases h with
  | cons q r => cases r; exact ⟨_, rfl, q⟩
theorem RpA.two {T : List Addr} {H : Hp} {vs : List V} {d e : D} (h : RpA K T H vs [d, e]) : ∃ v w, vs = [v, w] ∧ Rp K T H v d ∧ Rp K T H w e := by
  cases h with
  | cons q r => obtain ⟨w, z, p⟩ := r.one; subst z; exact ⟨_, _, rfl, q, p⟩
def lenD : List D → Option D
  | [.str z] => if Nat.ble z.length 1000000 then some (.int z.length) else none
  | [.tup xs] => some (.int xs.length)
  | [.lst xs] => some (.int xs.length)
  | [.scr xs] => some (.int xs.length)
  | _ => none
theorem c_len : CbD K (fun xs H Q => ∃ x n, xs = [x] ∧ LenV K x H n ∧ Q (.int n) H) lenD := fun {c os ρ μ σ H vs ds d Q} r p e q => by
  unfold lenD at e
  split at e
  · split at e
    · rename_i hl
      cases e
      obtain ⟨v, z, pv⟩ := p.one
      subst z
      have z := pv.inv_str.1
      subst z
      exact ⟨_, _, rfl, ⟨ble_line hl, rfl⟩, VOk.same q r (.int _)⟩
    · cases e
  · cases e
    obtain ⟨v, z, pv⟩ := p.one
    subst z
    obtain ⟨a, us, z, g1, g2⟩ := pv.inv_tup
    subst z
    refine ⟨_, _, rfl, .inr ⟨us, vw_le.sqT g1, rfl⟩, ?_⟩
    rw [g2.length]
    exact VOk.same q r (.int _)
  · cases e
    obtain ⟨v, z, pv⟩ := p.one
    subst z
    obtain ⟨a, us, z, g1, g2⟩ := pv.inv_lst
    subst z
    refine ⟨_, _, rfl, .inl ⟨us, .inl (.inl (vw_le _ _ g1)), rfl⟩, ?_⟩
    rw [g2.length]
    exact VOk.same q r (.int _)
  · cases e
    obtain ⟨v, z, pv⟩ := p.one
    subst z
    obtain ⟨a, z, g1⟩ := pv.inv_scr
    subst z
    refine ⟨_, _, rfl, .inl ⟨_, vw_le.sqL g1, rfl⟩, ?_⟩
    rw [List.length_map]
    exact VOk.same q r (.int _)
  · cases e
def absD : List D → Option D
  | [.int i] => some (.int (if i < 0 then -i else i))
  | _ => none
theorem c_abs : CbD K (fun xs H Q => ∃ i, xs = [.int i] ∧ Q (.int (if i < 0 then -i else i)) H) absD := fun {c os ρ μ σ H vs ds d Q} r p e q => by
  unfold absD at e
  split at e
  · cases e
    obtain ⟨v, z, pv⟩ := p.one
    subst z
    exact ⟨_, by rw [pv.inv_int], VOk.same q r (.int _)⟩
  · cases e
def max2D : List D → Option D
  | [.int i, .int j] => some (.int (if j > i then j else i))
  | _ => none
def min2D : List D → Option D
  | [.int i, .int j] => some (.int (if j < i then j else i))
  | _ => none
theorem c_max2 : CbD K (fun xs H Q => ∃ i j, xs = [.int i, .int j] ∧ Q (.int (if j > i then j else i)) H) max2D := fun {c os ρ μ σ H vs ds d Q} r p e q => by
  unfold max2D at e
  split at e
  · cases e
    obtain ⟨v, w, z, pv, pw⟩ := p.two
    subst z
    exact ⟨_, _, by rw [pv.inv_int, pw.inv_int], VOk.same q r (.int _)⟩
  · cases e
theorem c_min2 : CbD K (fun xs H Q => ∃ i j, xs = [.int i, .int j] ∧ Q (.int (if j < i then j else i)) H) min2D := fun {c os ρ μ σ H vs ds d Q} r p e q => by
  unfold min2D at e
  split at e
  · cases e
    obtain ⟨v, w, z, pv, pw⟩ := p.two
    subst z
    exact ⟨_, _, by rw [pv.inv_int, pw.inv_int], VOk.same q r (.int _)⟩
  · cases e
def intD : List D → Option D
  | [.int i] => some (.int i)
  | [.bl k] => some (.int (if k then 1 else 0))
  | _ => none
theorem c_int : CbD K (fun xs H Q => (∃ i, xs = [.int i] ∧ Q (.int i) H) ∨ ∃ k, xs = [.bl k] ∧ Q (.int (if k then 1 else 0)) H) intD := fun {c os ρ μ σ H vs ds d Q} r p e q => by
  unfold intD at e
  split at e
  · cases e
    obtain ⟨v, z, pv⟩ := p.one
    subst z
    exact .inl ⟨_, by rw [pv.inv_int], VOk.same q r (.int _)⟩
  · cases e
    obtain ⟨v, z, pv⟩ := p.one
    subst z
    exact .inr ⟨_, by rw [pv.inv_bl], VOk.same q r (.int _)⟩
  · cases e
/-- the ints of a list -/
def D.ints : List D → Option (List Int)
  | [] => some []
  | .int i :: r => (D.ints r).map (i :: ·)
  | _ :: _ => none
theorem D.ints_eq : ∀ {ds : List D} {ns : List Int}, D.ints ds = some ns → ds = ns.map D.int
  | [], _, h => by cases h; rfl
  | .int i :: r, _, h => by
    obtain ⟨ms, h1, h2⟩ := Option.map_eq_some_iff.mp (show (D.ints r).map (i :: ·) = some _ from h)
    subst h2
    rw [D.ints_eq h1]
    rfl
  | .non :: r, _, h => by cases h
  | .bl _ :: r, _, h => by cases h
  | .str _ :: r, _, h => by cases h
  | .tup _ :: r, _, h => by cases h
  | .lst _ :: r, _, h => by cases h
  | .scr _ :: r, _, h => by cases h
  | .dk _ _ :: r, _, h => by cases h
  | .dt _ _ :: r, _, h => by cases h
  | .own _ :: r, _, h => by cases h
theorem D.ints_map : ∀ ns : List Int, D.ints (ns.map D.int) = some ns
  | [] => rfl
  | n :: ns => by
    show (D.ints (ns.map D.int)).map (n :: ·) = some (n :: ns)
    rw [D.ints_map ns]
    rfl
def D.bls : List D → Option (List Bool)
  | [] => some []
  | .bl i :: r => (D.bls r).map (i :: ·)
  | _ :: _ => none
theorem D.bls_eq : ∀ {ds : List D} {ns : List Bool}, D.bls ds = some ns → ds = ns.map D.bl
  | [], _, h => by cases h; rfl
  | .bl i :: r, _, h => by
    obtain ⟨ms, h1, h2⟩ := Option.map_eq_some_iff.mp (show (D.bls r).map (i :: ·) = some _ from h)
    subst h2
    rw [D.bls_eq h1]
    rfl
  | .non :: r, _, h => by cases h
  | .int _ :: r, _, h => by cases h
  | .str _ :: r, _, h => by cases h
  | .tup _ :: r, _, h => by cases h
  | .lst _ :: r, _, h => by cases h
  | .scr _ :: r, _, h => by cases h
  | .dk _ _ :: r, _, h => by cases h
  | .dt _ _ :: r, _, h => by cases h
  | .own _ :: r, _, h => by cases h
theorem D.bls_map : ∀ ns : List Bool, D.bls (ns.map D.bl) = some ns
  | [] => rfl
  | n :: ns => by
    show (D.bls (ns.map D.bl)).map (n :: ·) = some (n :: ns)
    rw [D.bls_map ns]
    rfl
def sumD : List D → Option D
  | [.lst ds] => (D.ints ds).map fun ns => .int ns.sum
  | _ => none
theorem c_sum : CbD K (rSum K) sumD := fun {c os ρ μ σ H vs ds d Q} r p e q => by
  unfold sumD at e
  split at e
  · obtain ⟨ns, e1, e2⟩ := Option.map_eq_some_iff.mp e
    subst e2
    have z := D.ints_eq e1
    subst z
    obtain ⟨v, z, pv⟩ := p.one
    subst z
    obtain ⟨a, us, z, g1, g2⟩ := pv.inv_lst
    subst z
    have z := g2.ints
    subst z
    exact ⟨a, ns, rfl, .inl (.inl (vw_le _ _ g1)), VOk.same q r (.int _)⟩
  · cases e
def allD : List D → Option D
  | [.lst ds] => (D.bls ds).map fun ns => .bl (ns.all id)
  | _ => none
def anyD : List D → Option D
  | [.lst ds] => (D.bls ds).map fun ns => .bl (ns.any id)
  | _ => none
theorem c_all : CbD K (rAll K) allD := fun {c os ρ μ σ H vs ds d Q} r p e q => by
  unfold allD at e
  split at e
  · obtain ⟨ns, e1, e2⟩ := Option.map_eq_some_iff.mp e
    subst e2
    have z := D.bls_eq e1
    subst z
    obtain ⟨v, z, pv⟩ := p.one
    subst z
    obtain ⟨a, us, z, g1, g2⟩ := pv.inv_lst
    subst z
    have z := g2.bls
    subst z
    exact ⟨a, ns, rfl, .inl (.inl (vw_le _ _ g1)), VOk.same q r (.bl _)⟩
  · cases e
theorem c_any : CbD K (rAny K) anyD := fun {c os ρ μ σ H vs ds d Q} r p e q => by
  unfold anyD at e
  split at e
  · obtain ⟨ns, e1, e2⟩ := Option.map_eq_some_iff.mp e
    subst e2
    have z := D.bls_eq e1
    subst z
    obtain ⟨v, z, pv⟩ := p.one
    subst z
    obtain ⟨a, us, z, g1, g2⟩ := pv.inv_lst
    subst z
    have z := g2.bls
    subst z
    exact ⟨a, ns, rfl, .inl (.inl (vw_le _ _ g1)), VOk.same q r (.bl _)⟩
  · cases e
def listD : List D → Option D
  | [.lst ds] => some (.lst ds)
  | [.tup ds] => some (.lst ds)
  | [.scr ns] => some (.lst (ns.map D.int))
  | _ => none
theorem c_list : CbF K (fun xs H Q => ∃ p ys, xs = [.ref p] ∧ (SqL K H p ys ∨ SqT K H p ys) ∧ ∀ l, H l = none → Q (.ref l) (upd H l (.lst ys))) listD := fun {c os ρ μ σ H vs ds d Q} r p e q => by
  unfold listD at e
  split at e
  · cases e
    obtain ⟨v, z, pv⟩ := p.one
    subst z
    obtain ⟨a, us, z, g1, g2⟩ := pv.inv_lst
    subst z
    exact ⟨a, us, rfl, .inl (.inl (.inl (vw_le _ _ g1))), fun l n => FOk.newL q r g2 n⟩
  · cases e
    obtain ⟨v, z, pv⟩ := p.one
    subst z
    obtain ⟨a, us, z, g1, g2⟩ := pv.inv_tup
    subst z
    exact ⟨a, us, rfl, .inr (vw_le.sqT g1), fun l n => FOk.newL q r g2 n⟩
  · cases e
    obtain ⟨v, z, pv⟩ := p.one
    subst z
    obtain ⟨a, z, g1⟩ := pv.inv_scr
    subst z
    exact ⟨a, _, rfl, .inl (vw_le.sqL g1), fun l n => FOk.newL q r (RpA.of_ints _) n⟩
  · cases e
def tupleD : List D → Option D
  | [.lst ds] => some (.tup ds)
  | [.tup ds] => some (.tup ds)
  | _ => none
theorem c_tuple : CbD K (fun xs H Q => ∃ p ys, xs = [.ref p] ∧ ((SqL K H p ys ∧ ∀ l, H l = none → Q (.ref l) (upd H l (.tup ys))) ∨ (SqT K H p ys ∧ Q (.ref p) H))) tupleD := fun {c os ρ μ σ H vs ds d Q} r p e q => by
  unfold tupleD at e
  split at e
  · cases e
    obtain ⟨v, z, pv⟩ := p.one
    subst z
    obtain ⟨a, us, z, g1, g2⟩ := pv.inv_lst
    subst z
    exact ⟨a, us, rfl, .inl ⟨.inl (.inl (vw_le _ _ g1)), fun l n => VOk.newT q r g2 n⟩⟩
  · cases e
    obtain ⟨v, z, pv⟩ := p.one
    subst z
    obtain ⟨a, us, z, g1, g2⟩ := pv.inv_tup
    subst z
    exact ⟨a, us, rfl, .inr ⟨vw_le.sqT g1, VOk.same q r (.tup g1 g2)⟩⟩
  · cases e
/-- ints in order -/
def insI (x : Int) : List Int → List Int
  | [] => [x]
  | y :: r => if x ≤ y then x :: y :: r else y :: insI x r
def sortI : List Int → List Int
  | [] => []
  | x :: r => insI x (sortI r)
theorem insI_perm (x : Int) : ∀ l : List Int, (insI x l).Perm (x :: l)
  | [] => .refl _
  | y :: r => by
    unfold insI
    split
    · exact .refl _
    · exact ((insI_perm x r).cons y).trans (.swap x y r)
theorem sortI_perm : ∀ l : List Int, (sortI l).Perm l
  | [] => .refl _
  | x :: r => (insI_perm x _).trans ((sortI_perm r).cons x)
theorem insI_sorted (x : Int) : ∀ l : List Int, l.Pairwise (· ≤ ·) → (insI x l).Pairwise (· ≤ ·)
  | [], _ => by unfold insI; exact List.pairwise_singleton _ _
  | y :: r, h => by
    unfold insI
    split
    · rename_i hxy
      refine List.pairwise_cons.mpr ⟨fun z hz => ?_, h⟩
      rcases List.mem_cons.mp hz with e | hz
      · omega
      · have := (List.pairwise_cons.mp h).1 z hz
        omega
    · rename_i hxy
      refine List.pairwise_cons.mpr ⟨fun z hz => ?_, insI_sorted x r (List.pairwise_cons.mp h).2⟩
      rcases List.mem_cons.mp ((insI_perm x r).mem_iff.mp hz) with e | hz
      · omega
      · exact (List.pairwise_cons.mp h).1 z hz
theorem sortI_sorted : ∀ l : List Int, (sortI l).Pairwise (· ≤ ·)
  | [] => List.Pairwise.nil
  | x :: r => insI_sorted x _ (sortI_sorted r)
theorem sorted_uniq : ∀ {l m : List Int}, l.Perm m → l.Pairwise (· ≤ ·) → m.Pairwise (· ≤ ·) → l = m
  | [], m, h, _, _ => by rw [List.nil_perm.mp h]
  | x :: r, [], h, _, _ => by have := h.length_eq; simp at this
  | x :: r, y :: s, h, h1, h2 => by
    have a1 := List.pairwise_cons.mp h1
    have a2 := List.pairwise_cons.mp h2
    have e : x = y := by
      have m1 : x ∈ y :: s := h.mem_iff.mp (by simp)
      have m2 : y ∈ x :: r := h.mem_iff.mpr (by simp)
      rcases List.mem_cons.mp m1 with z1 | z1
      · exact z1
      · rcases List.mem_cons.mp m2 with z2 | z2
        · exact z2.symm
        · have := a1.1 y z2
          have := a2.1 x z1
          omega
    subst e
    rw [sorted_uniq (List.Perm.cons_inv h) a1.2 a2.2]
def sortedID : List D → Option D
  | [.lst ds] => (D.ints ds).map fun ns => .lst ((sortI ns).map D.int)
  | _ => none
theorem c_sortedI : CbF K (rSortedI K) sortedID := fun {c os ρ μ σ H vs ds d Q} r p e q => by
  unfold sortedID at e
  split at e
  · obtain ⟨ns, e1, e2⟩ := Option.map_eq_some_iff.mp e
    subst e2
    have z := D.ints_eq e1
    subst z
    obtain ⟨v, z, pv⟩ := p.one
    subst z
    obtain ⟨a, us, z, g1, g2⟩ := pv.inv_lst
    subst z
    have z := g2.ints
    subst z
    refine ⟨a, ns, rfl, .inl (.inl (vw_le _ _ g1)), fun ns' l h1 h2 n => ?_⟩
    have e : ns' = sortI ns := sorted_uniq (h1.trans (sortI_perm ns).symm) h2 (sortI_sorted ns)
    subst e
    exact FOk.newL q r (RpA.of_ints _) n
  · cases e
end
end DC
set_option Elab.async false
set_option linter.all false
set_option maxRecDepth 100000
set_option maxHeartbeats 2000000
/-! DC: statements. -/
namespace DC
open PySem PySem.Spec PyProof.Rows L2
inductive SRes where
  | nx (ρ : Env) (μ : Store)
  | rt (d : D) (μ : Store)
  | bk (ρ : Env) (μ : Store)
  | ct (ρ : Env) (μ : Store)
  | exc (x : Exn) (ρ : Env) (μ : Store)
  | fail
abbrev SD := Env → Store → SRes
/-- what is handed back: a value, or (fr) a new container -/
def RtOk (K : PySem.W.Frag) (fr : Bool) (c : Ct) (rt : VK) (d : D) (μ : Store) : Prop := match fr with
  | false => ∀ v os ρ σ H, Rl K c os ρ μ σ H → Rp K c.T (vw c os H) v d → rt v H
  | true => ∀ a os ρ σ H, Fr K c os ρ μ σ H a d → rt (.ref a) H
def SOut (K : PySem.W.Frag) (cl : Nat → Addr) (W : WX) (fr : Bool) (c : Ct) (E : Ends) (r : SRes) : Prop := match r with
  | .nx ρ μ => ∀ os σ H, Rl K c os ρ μ σ H → E.nx σ H
  | .rt d μ => RtOk K fr c E.rt d μ
  | .bk ρ μ => ∀ os σ H, Rl K c os ρ μ σ H → E.bk σ H
  | .ct ρ μ => ∀ os σ H, Rl K c os ρ μ σ H → E.ct σ H
  | .exc x ρ μ => ∀ e dx os σ H, Rl K c os ρ μ σ H → ExAt K cl c os x e dx H → W e dx σ H
  | .fail => False
def tS (K : PySem.W.Frag) (cl : Nat → Addr) (W : WX) (fr : Bool) (F : SD) : TS := fun E σ H => ∃ c os ρ μ, Rl K c os ρ μ σ H ∧ SOut K cl W fr c E (F ρ μ)
theorem ps_imp {X : Cx} {st : Stmt} {t t' : TS} (h : PS X st t) (i : ∀ E σ H, t' E σ H → t E σ H) : PS X st t' := ⟨fun pins s σ H E I q => h.run pins s σ H E I (i E σ H q)⟩
theorem pss_imp {X : Cx} {st : List Stmt} {t t' : TS} (h : PSs X st t) (i : ∀ E σ H, t' E σ H → t E σ H) : PSs X st t' := ⟨fun pins s σ H E I q => h.run pins s σ H E I (i E σ H q)⟩
/-! ### denotations of statements -/
def sNext : SD := fun ρ μ => .nx ρ μ
def sSeq (F G : SD) : SD := fun ρ μ => match F ρ μ with
  | .nx ρ' μ' => G ρ' μ'
  | r => r
def Res.st {α : Type} (r : Res α) (ρ : Env) (k : α → Store → SRes) : SRes := match r with
  | .ok a μ => k a μ
  | .exc x μ => .exc x ρ μ
  | .fail => .fail
def sAsg (i : Nat) (f : XD) : SD := fun ρ μ => (f ρ μ).st ρ fun d μ' => .nx (ρ.set i (.fz d)) μ'
def sAsgF (i : Nat) (f : XD) : SD := fun ρ μ => (f ρ μ).st ρ fun d μ' => .nx (ρ.set i (.ow d)) μ'
def sRet (f : XD) : SD := fun ρ μ => (f ρ μ).st ρ fun d μ' => .rt d μ'
def sRetV (i : Nat) : SD := fun ρ μ => match ρ[i]? with
  | some (.ow d) => .rt d μ
  | _ => .fail
def sRetN : SD := fun ρ μ => .rt .non μ
def sIf (t : XB) (F G : SD) : SD := fun ρ μ => (t ρ μ).st ρ fun b μ' => if b then F ρ μ' else G ρ μ'
def sExpr (f : XD) : SD := fun ρ μ => (f ρ μ).st ρ fun _ μ' => .nx ρ μ'
def sFrz (i : Nat) (F : SD) : SD := fun ρ μ => match ρ[i]? with
  | some (.ow d) => F (ρ.set i (.fz d)) μ
  | _ => F ρ μ
def sBrk : SD := fun ρ μ => .bk ρ μ
def sCnt : SD := fun ρ μ => .ct ρ μ
def sFail : SD := fun _ _ => .fail
def sWhile : Nat → XB → SD → SD
  | 0, _, _ => fun _ _ => .fail
  | n + 1, t, F => fun ρ μ => (t ρ μ).st ρ fun b μ1 => if b then (match F ρ μ1 with
      | .nx ρ' μ' => sWhile n t F ρ' μ'
      | .ct ρ' μ' => sWhile n t F ρ' μ'
      | .bk ρ' μ' => .nx ρ' μ'
      | r => r) else .nx ρ μ1
def sApp (i : Nat) (f : XD) : SD := fun ρ μ => match ρ[i]? with
  | some (.ow (.lst ds)) => (f ρ μ).st ρ fun d μ' => if Nat.ble ds.length 1000000 then .nx (ρ.set i (.ow (.lst (ds ++ [d])))) μ' else .fail
  | _ => .fail
section
variable {X : Cx} {cl : Nat → Addr} {W : WX} {fr : Bool} {e : Expr} {f : XD} {t : XB} {F G : SD} {s0 : Stmt} {rest body orelse : List Stmt} {pos : Pos}
theorem SOut.st {K : PySem.W.Frag} {α : Type} {r : Res α} {ρ : Env} {k : α → Store → SRes} {c : Ct} {E : Ends} (h : SOut K cl W fr c E (r.st ρ k)) {os : List (Option Addr)} {σ : L2.St} {H : Hp} : Out r (fun a μ => SOut K cl W fr c E (k a μ)) (EOk K cl W c os ρ σ H) := by
  cases r with
  | ok a μ => exact h
  | exc x μ => exact fun v dx H' r' _ ex => h v dx os σ H' r' ex
  | fail => exact h
theorem hNil : PSs X [] (tS X.K cl W fr sNext) := pss_imp pss_nil fun E σ H => by
  rintro ⟨c, os, ρ, μ, r, h⟩
  exact h os σ H r
theorem seq_imp (E : Ends) (σ : L2.St) (H : Hp) (h : tS X.K cl W fr (sSeq F G) E σ H) : tSeq (tS X.K cl W fr F) (tS X.K cl W fr G) E σ H := by
  obtain ⟨c, os, ρ, μ, r, h⟩ := h
  refine ⟨c, os, ρ, μ, r, ?_⟩
  unfold sSeq at h
  cases e : F ρ μ with
  | nx ρ' μ' =>
    rw [e] at h
    intro os' σ' H' r'
    exact ⟨c, os', ρ', μ', r', h⟩
  | rt d μ' => rw [e] at h; exact h
  | bk ρ' μ' => rw [e] at h; exact h
  | ct ρ' μ' => rw [e] at h; exact h
  | exc x ρ' μ' => rw [e] at h; exact h
  | fail => rw [e] at h; exact h
theorem hCons (h1 : PS X s0 (tS X.K cl W fr F)) (h2 : PSs X rest (tS X.K cl W fr G)) : PSs X (s0 :: rest) (tS X.K cl W fr (sSeq F G)) := pss_imp (pss_cons h1 h2) seq_imp
theorem hOne (h1 : PS X s0 (tS X.K cl W fr F)) : PSs X [s0] (tS X.K cl W fr F) := pss_one h1
theorem hPass : PS X (.Pass pos) (tS X.K cl W fr sNext) := ps_imp ps_pass fun E σ H => by
  rintro ⟨c, os, ρ, μ, r, h⟩
  exact h os σ H r
theorem hBrk : PS X (.Break pos) (tS X.K cl W fr sBrk) := ps_imp ps_break fun E σ H => by
  rintro ⟨c, os, ρ, μ, r, h⟩
  exact h os σ H r
theorem hCnt : PS X (.Continue pos) (tS X.K cl W fr sCnt) := ps_imp ps_continue fun E σ H => by
  rintro ⟨c, os, ρ, μ, r, h⟩
  exact h os σ H r
theorem hFail : PS X s0 (tS X.K cl W fr sFail) := ps_imp ps_never fun E σ H => by
  rintro ⟨c, os, ρ, μ, r, h⟩
  exact h.elim
theorem hFails : PSs X rest (tS X.K cl W fr sFail) := pss_imp pss_never fun E σ H => by
  rintro ⟨c, os, ρ, μ, r, h⟩
  exact h.elim
theorem hAsg {i : Nat} (h : PS X s0 (tAsg (tE X.K cl W f) (gName i))) : PS X s0 (tS X.K cl W fr (sAsg i f)) := ps_imp h fun E σ H => by
  rintro ⟨c, os, ρ, μ, r, h⟩
  refine ⟨c, os, ρ, μ, r, (SOut.st h).imp (fun d μ1 h1 => ?_) fun _ _ q => q⟩
  intro v1 H1 r1 e1 p1
  exact h1 _ _ H1 (r1.set p1)
theorem hAsgF {i : Nat} (h : PS X s0 (tAsg (tF X.K cl W f) (gName i))) : PS X s0 (tS X.K cl W fr (sAsgF i f)) := ps_imp h fun E σ H => by
  rintro ⟨c, os, ρ, μ, r, h⟩
  refine ⟨c, os, ρ, μ, r, (SOut.st h).imp (fun d μ1 h1 => ?_) fun _ _ q => q⟩
  intro v1 H1 f1 e1 _
  exact h1 _ _ H1 (f1.put i)
theorem hRet (h : PE X e (tE X.K cl W f)) : PS X (.Return (some e) pos) (tS X.K cl W false (sRet f)) := ps_imp (ps_ret h) fun E σ H => by
  rintro ⟨c, os, ρ, μ, r, h⟩
  refine ⟨c, os, ρ, μ, r, (SOut.st h).imp (fun d μ1 h1 => ?_) fun _ _ q => q⟩
  intro v1 H1 r1 e1 p1
  exact h1 v1 os ρ σ H1 r1 p1
theorem hRetF (h : PE X e (tF X.K cl W f)) : PS X (.Return (some e) pos) (tS X.K cl W true (sRet f)) := ps_imp (ps_ret h) fun E σ H => by
  rintro ⟨c, os, ρ, μ, r, h⟩
  refine ⟨c, os, ρ, μ, r, (SOut.st h).imp (fun d μ1 h1 => ?_) fun _ _ q => q⟩
  intro v1 H1 r1 e1 _
  exact h1 v1 os ρ σ H1 r1
theorem hRetN : PS X (.Return none pos) (tS X.K cl W false sRetN) := ps_imp ps_retN fun E σ H => by
  rintro ⟨c, os, ρ, μ, r, h⟩
  exact h .non os ρ σ H r .non
/-- the own container goes out -/
theorem Rl.release {K : PySem.W.Frag} {c : Ct} {os : List (Option Addr)} {ρ : Env} {μ : Store} {σ : L2.St} {H : Hp} {d : D} (r : Rl K c os ρ μ σ H) {i : Nat} (h : ρ[i]? = some (.ow d)) : ∃ a, σ[i]? = some (some (.ref a)) ∧ Fr K c (os.set i none) (ρ.set i .no) μ σ H a d := by
  obtain ⟨a, h1, h2, h3⟩ := r.getOw h
  have l1 : i < os.length := (List.getElem?_eq_some_iff.mp h2).1
  have hm : some a ∈ os := List.mem_of_getElem? h2
  obtain ⟨w1, w2, w3⟩ := r.own a hm
  have nin : some a ∉ os.set i none := fun q => by
    obtain ⟨j, hj⟩ := List.getElem?_of_mem q
    by_cases e : i = j
    · subst e
      rw [List.getElem?_set_self l1] at hj; cases hj
    · rw [List.getElem?_set_ne e] at hj
      exact e (r.inj i j a h2 hj)
  have ev : vw (c.av a) (os.set i none) H = vw c os H := by
    funext b
    unfold vw Ct.av
    by_cases hb : (c.A b ∨ b ∈ c.T ∨ some b ∈ os)
    · rw [if_pos hb, if_pos]
      rcases hb with z | z | z
      · exact .inl (.inl z)
      · exact .inr (.inl z)
      · by_cases eb : b = a
        · exact .inl (.inr eb)
        · refine .inr (.inr ?_)
          obtain ⟨j, hj⟩ := List.getElem?_of_mem z
          have nj : i ≠ j := fun e => by
            subst e
            rw [h2] at hj
            exact eb (Option.some.inj (Option.some.inj hj)).symm
          exact List.mem_of_getElem? (i := j) (by rw [List.getElem?_set_ne nj]; exact hj)
    · rw [if_neg hb, if_neg]
      rintro ((z | z) | z | z)
      · exact hb (.inl z)
      · exact hb (.inr (.inr (by rw [z]; exact hm)))
      · exact hb (.inr (.inl z))
      · exact hb (.inr (.inr (mem_set_none z)))
  refine ⟨a, h1, ⟨⟨by simp [r.lo], by simp [r.lr], fun j o s x g1 g2 g3 => ?_, fun j k b g1 g2 => ?_, fun b g => ?_, fun b g z => ?_, r.tn, r.sm, r.st, r.keep, fun b g => ?_⟩, ?_, w2, w1, nin, w3⟩⟩
  · rw [ev]
    by_cases hj : i = j
    · subst hj
      have l2 : i < ρ.length := by have := (List.getElem?_eq_some_iff.mp g2).1; simpa using this
      rw [List.getElem?_set_self l1] at g1
      rw [List.getElem?_set_self l2] at g2
      cases g1; cases g2
      trivial
    · rw [List.getElem?_set_ne hj] at g1 g2
      exact r.sl j o s x g1 g2 g3
  · have g : ∀ m, (os.set i none)[m]? = some (some b) → os[m]? = some (some b) := fun m hm => by
      by_cases e : i = m
      · subst e
        rw [List.getElem?_set_self l1] at hm; cases hm
      · rw [List.getElem?_set_ne e] at hm; exact hm
    exact r.inj j k b (g j g1) (g k g2)
  · have q := r.own b (mem_set_none g)
    refine ⟨q.1, fun z => z.elim q.2.1 fun y => nin (by rw [← y]; exact g), q.2.2⟩
  · exact z.elim (r.tA b g) fun y => w1 (by rw [← y]; exact g)
  · rcases g with g | g
    · exact r.dom b g
    · rw [g]; exact h3.thereN
  · rw [ev]; exact h3
theorem hRetV {i : Nat} {x : Str} {p : Pos} (h : PE X (.Name x p) (tVar i)) : PS X (.Return (some (.Name x p)) pos) (tS X.K cl W true (sRetV i)) := ps_imp (ps_ret h) fun E σ H => by
  rintro ⟨c, os, ρ, μ, r, h⟩
  unfold sRetV at h
  split at h
  · rename_i d e
    obtain ⟨a, h1, h2⟩ := r.release e
    exact ⟨_, h1, h a _ _ _ H h2⟩
  · exact h.elim
theorem hIf {c : Expr} (hc : PT X c (tT X.K cl W t)) (ha : PSs X body (tS X.K cl W fr F)) (hb : PSs X orelse (tS X.K cl W fr G)) : PS X (.If c body orelse pos) (tS X.K cl W fr (sIf t F G)) := ps_imp (ps_if hc ha hb) fun E σ H => by
  rintro ⟨c, os, ρ, μ, r, h⟩
  refine ⟨c, os, ρ, μ, r, (SOut.st h).imp (fun k μ1 h1 => ?_) fun _ _ q => q⟩
  intro H1 r1 e1
  cases k with
  | true =>
    rw [if_pos rfl] at h1 ⊢
    exact ⟨c, os, ρ, μ1, r1, h1⟩
  | false =>
    rw [if_neg Bool.false_ne_true] at h1 ⊢
    exact ⟨c, os, ρ, μ1, r1, h1⟩
theorem hExpr (he : PE X e (tE X.K cl W f)) (hs : swapsWith e none pos.line X.env = pure false := by rfl) : PS X (.Expr e pos) (tS X.K cl W fr (sExpr f)) := ps_imp (ps_expr he hs) fun E σ H => by
  rintro ⟨c, os, ρ, μ, r, h⟩
  refine ⟨c, os, ρ, μ, r, (SOut.st h).imp (fun d μ1 h1 => ?_) fun _ _ q => q⟩
  intro v1 H1 r1 e1 p1
  exact h1 _ _ H1 r1
theorem hFrz {i : Nat} (h : PS X s0 (tS X.K cl W fr F)) : PS X s0 (tS X.K cl W fr (sFrz i F)) := ps_imp h fun E σ H => by
  rintro ⟨c, os, ρ, μ, r, h⟩
  unfold sFrz at h
  split at h
  · rename_i d e
    exact ⟨c, _, _, μ, r.freeze e, h⟩
  · exact ⟨c, os, ρ, μ, r, h⟩
theorem hWhile (n : Nat) {c : Expr} (hp : PassesOwn (model X.prog X.w) X.A X.env X.xe) (hc : PT X c (tT X.K cl W t)) (hb : PSs X body (tS X.K cl W fr F)) : PS X (.While c body [] pos) (tS X.K cl W fr (sWhile n t F)) := ps_imp (ps_while hp hc hb) fun E σ H => by
  rintro ⟨c, os, ρ, μ, r, h⟩
  refine ⟨fun m σ H => ∃ os ρ μ, Rl X.K c os ρ μ σ H ∧ SOut X.K cl W fr c E (sWhile m t F ρ μ), ⟨n, os, ρ, μ, r, h⟩, ?_⟩
  rintro m σ H ⟨os, ρ, μ, r, h⟩
  cases m with
  | zero => exact h.elim
  | succ m =>
    refine ⟨c, os, ρ, μ, r, (SOut.st (show SOut X.K cl W fr c E ((t ρ μ).st ρ _) from h)).imp (fun k μ1 h1 => ?_) fun _ _ q => q⟩
    intro H1 r1 e1
    cases k with
    | false =>
      rw [if_neg Bool.false_ne_true] at h1 ⊢
      exact h1 os σ H1 r1
    | true =>
      rw [if_pos rfl] at h1 ⊢
      refine ⟨fun σ' H' => ∃ os' ρ' μ', Rl X.K c os' ρ' μ' σ' H' ∧ SOut X.K cl W fr c E (sWhile m t F ρ' μ'), fun σ' H' q => ⟨m, Nat.lt_succ_self m, q⟩, ?_⟩
      refine ⟨c, os, ρ, μ1, r1, ?_⟩
      cases e : F ρ μ1 with
      | nx ρ' μ' => rw [e] at h1; exact fun os' σ' H' r' => ⟨os', ρ', μ', r', h1⟩
      | ct ρ' μ' => rw [e] at h1; exact fun os' σ' H' r' => ⟨os', ρ', μ', r', h1⟩
      | bk ρ' μ' => rw [e] at h1; exact h1
      | rt d μ' => rw [e] at h1; exact h1
      | exc x ρ' μ' => rw [e] at h1; exact h1
      | fail => rw [e] at h1; exact h1
/-- x.append(e), x an own list -/
theorem hApp {i : Nat} (h : PS X s0 (tDrop (tBM X.K "list" rAppend (tVar i) (tCons (tE X.K cl W f) tNil)))) : PS X s0 (tS X.K cl W fr (sApp i f)) := ps_imp h fun E σ H => by
  rintro ⟨c, os, ρ, μ, r, h⟩
  unfold sApp at h
  split at h
  · rename_i ds e0
    obtain ⟨a, h1, h2, h3⟩ := r.getOw e0
    have l1 : ∃ xs, H a = some (.lst xs) := by
      cases h3 with | lst q _ => exact ⟨_, q⟩
    obtain ⟨xs, hxs⟩ := l1
    refine ⟨.ref a, h1, .inl ⟨rfl, xs, .inl (.inl hxs)⟩, ?_⟩
    refine ⟨c, os, ρ, μ, r, (SOut.st h).imp (fun d μ1 h1' => ?_) fun _ _ q => q⟩
    intro v1 H1 r1 e1 p1
    by_cases hl : Nat.ble ds.length 1000000 = true
    · rw [if_pos hl] at h1'
      obtain ⟨a', g1, g2, g3⟩ := r1.getOw e0
      have ea : a' = a := by
        rw [h1] at g1
        have := Option.some.inj (Option.some.inj g1)
        cases this; rfl
      subst ea
      cases g3 with
      | lst q k =>
        rename_i ys
        refine ⟨a', ys, v1, rfl, rfl, q, by rw [k.length]; exact Nat.lt_of_le_of_lt (Nat.le_of_ble_eq_true hl) (by rw [sizeLine_eq]; decide), ?_⟩
        exact h1' os σ _ (r1.change g1 g2 (.lst upd_same (k.append (.cons p1 .nil))))
    · rw [if_neg hl] at h1'
      exact h1'.elim
  · exact h.elim
end
end DC
set_option Elab.async false
set_option linter.all false
set_option maxRecDepth 100000
set_option maxHeartbeats 2000000
/-! DC: targets, loops, comprehensions. -/
namespace DC
open PySem PySem.Spec PyProof.Rows L2
/-! ### slots forgotten -/
theorem wipe_get (σ : L2.St) (j : Nat) : ∀ vs : List Nat, (wipe σ vs)[j]? = if j ∈ vs then (σ[j]?).map (fun _ => (none : Option V)) else σ[j]?
  | [] => by simp [wipe]
  | v :: vs => by
    unfold wipe
    by_cases e : v = j
    · subst e
      rw [List.getElem?_set, if_pos rfl, wipe_length]
      have hm : v ∈ v :: vs := by simp
      by_cases hl : v < σ.length
      · rw [if_pos hl, if_pos hm, List.getElem?_eq_getElem hl]; rfl
      · rw [if_neg hl, if_pos hm, List.getElem?_eq_none (by omega)]; rfl
    · rw [List.getElem?_set_ne e, wipe_get σ j vs]
      by_cases h : j ∈ vs
      · rw [if_pos h, if_pos (by simp [h])]
      · rw [if_neg h, if_neg (by simp [h, Ne.symm e])]
theorem wipe_set {σ : L2.St} {i : Nat} {x : Option V} {vs : List Nat} (h : i ∈ vs) : wipe (σ.set i x) vs = wipe σ vs := by
  apply List.ext_getElem?
  intro j
  rw [wipe_get, wipe_get]
  by_cases e : j ∈ vs
  · rw [if_pos e, if_pos e, List.getElem?_set]
    by_cases q : i = j
    · subst q
      rw [if_pos rfl]
      by_cases hl : i < σ.length
      · rw [if_pos hl, List.getElem?_eq_getElem hl]; rfl
      · rw [if_neg hl, List.getElem?_eq_none (by omega)]
    · rw [if_neg q]
  · have q : i ≠ j := fun z => by subst z; exact e h
    rw [if_neg e, if_neg e, List.getElem?_set_ne q]
theorem wipe_idem (σ : L2.St) (vs : List Nat) : wipe (wipe σ vs) vs = wipe σ vs := by
  apply List.ext_getElem?
  intro j
  rw [wipe_get, wipe_get]
  by_cases e : j ∈ vs
  · rw [if_pos e, if_pos e]
    cases σ[j]? <;> rfl
  · rw [if_neg e, if_neg e]
/-! ### targets -/
abbrev Tg := D → Env → Option Env
abbrev Tgs := List D → Env → Option Env
def gN (i : Nat) : Tg := fun d ρ => some (ρ.set i (.fz d))
def gE : Tgs := fun ds ρ => match ds with
  | [] => some ρ
  | _ => none
def gC (g : Tg) (gs : Tgs) : Tgs := fun ds ρ => match ds with
  | d :: r => (g d ρ).bind fun ρ' => gs r ρ'
  | [] => none
def gT (gs : Tgs) : Tg := fun d ρ => match d with
  | .tup ds => gs ds ρ
  | _ => none
structure Same' (is : List Nat) (os os' : List (Option Addr)) (σ σ' : L2.St) : Prop where
  wp : ∀ vs, (∀ i ∈ is, i ∈ vs) → wipe σ' vs = wipe σ vs
  oo : (∀ i ∈ is, ∀ a, os[i]? ≠ some (some a)) → os' = os
  le : ∀ a, some a ∈ os' → some a ∈ os
def tG (K : PySem.W.Frag) (is : List Nat) (g : Tg) : TG := fun v σ H Q => ∃ c os ρ μ d ρ', Rl K c os ρ μ σ H ∧ Rp K c.T (vw c os H) v d ∧ g d ρ = some ρ' ∧ ∀ os' σ', Rl K c os' ρ' μ σ' H → Same' is os os' σ σ' → Q σ' H
def tGs (K : PySem.W.Frag) (is : List Nat) (g : Tgs) : TGs := fun vs σ H Q => ∃ c os ρ μ ds ρ', Rl K c os ρ μ σ H ∧ RpA K c.T (vw c os H) vs ds ∧ g ds ρ = some ρ' ∧ ∀ os' σ', Rl K c os' ρ' μ σ' H → Same' is os os' σ σ' → Q σ' H
theorem Same'.refl (os : List (Option Addr)) (σ : L2.St) : Same' [] os os σ σ := ⟨fun _ _ => rfl, fun _ => rfl, fun _ h => h⟩
theorem Same'.trans {is js : List Nat} {os os1 os2 : List (Option Addr)} {σ σ1 σ2 : L2.St} (a : Same' is os os1 σ σ1) (b : Same' js os1 os2 σ1 σ2) : Same' (is ++ js) os os2 σ σ2 where
  wp := fun vs h => by rw [b.wp vs fun i hi => h i (List.mem_append_right _ hi), a.wp vs fun i hi => h i (List.mem_append_left _ hi)]
  oo := fun h => by
    have e1 := a.oo fun i hi => h i (List.mem_append_left _ hi)
    have e2 := b.oo fun i hi => by rw [e1]; exact h i (List.mem_append_right _ hi)
    rw [e2, e1]
  le := fun x h => a.le x (b.le x h)
theorem Same'.set {i : Nat} {os : List (Option Addr)} {σ : L2.St} {v : V} (hl : os.length = σ.length) : Same' [i] os (os.set i none) σ (σ.set i (some v)) where
  wp := fun vs h => wipe_set (h i (by simp))
  oo := fun h => by
    apply List.ext_getElem?
    intro j
    by_cases e : i = j
    · subst e
      rw [List.getElem?_set, if_pos rfl]
      by_cases hl : i < os.length
      · rw [if_pos hl, List.getElem?_eq_getElem hl]
        cases e2 : os[i] with
        | none => rfl
        | some a => exact absurd (by rw [List.getElem?_eq_getElem hl, e2]) (h i (by simp) a)
      · rw [if_neg hl, List.getElem?_eq_none (by omega)]
    · rw [List.getElem?_set_ne e]
  le := fun a h => mem_set_none h
theorem pg_imp {X : Cx} {e : Expr} {t t' : TG} (h : PG X e t) (i : ∀ v σ H Q, t' v σ H Q → t v σ H Q) : PG X e t' := ⟨fun pins s σ H v u Q I r q => h.run pins s σ H v u Q I r (i v σ H Q q)⟩
theorem pgs_imp {X : Cx} {e : List Expr} {t t' : TGs} (h : PGs X e t) (i : ∀ v σ H Q, t' v σ H Q → t v σ H Q) : PGs X e t' := ⟨fun pins s σ H v u Q I r q => h.run pins s σ H v u Q I r (i v σ H Q q)⟩
section
variable {X : Cx} {e : Expr} {es : List Expr} {is js : List Nat} {g : Tg} {gs : Tgs} {pos : Pos}
theorem kN {i : Nat} (h : PG X e (gName i)) : PG X e (tG X.K [i] (gN i)) := pg_imp h fun v σ H Q => by
  rintro ⟨c, os, ρ, μ, d, ρ', r, p, e, h⟩
  cases e
  exact h _ _ (r.set p) (.set r.lo)
theorem kE : PGs X [] (tGs X.K [] gE) := pgs_imp pgs_nil fun v σ H Q => by
  rintro ⟨c, os, ρ, μ, ds, ρ', r, p, e, h⟩
  cases ds with
  | nil => cases p; cases e; exact ⟨rfl, h _ _ r (.refl _ _)⟩
  | cons d ds => cases e
theorem kC (h1 : PG X e (tG X.K is g)) (h2 : PGs X es (tGs X.K js gs)) (h : PGs X (e :: es) (gCons (tG X.K is g) (tGs X.K js gs))) : PGs X (e :: es) (tGs X.K (is ++ js) (gC g gs)) := pgs_imp h fun v σ H Q => by
  rintro ⟨c, os, ρ, μ, ds, ρ', r, p, e, h⟩
  cases ds with
  | nil => cases e
  | cons d ds =>
    cases p with
    | cons q k =>
      obtain ⟨ρ1, e1, e2⟩ := Option.bind_eq_some_iff.mp (show (g d ρ).bind (fun ρ' => gs ds ρ') = some ρ' from e)
      refine ⟨_, _, rfl, c, os, ρ, μ, d, ρ1, r, q, e1, fun os1 σ1 r1 s1 => ?_⟩
      exact ⟨c, os1, ρ1, μ, ds, ρ', r1, k.mono (vw_os s1.le), e2, fun os2 σ2 r2 s2 => h os2 σ2 r2 (s1.trans s2)⟩
theorem gs_len : ∀ {n : Nat}, (∀ ds ρ ρ', gs ds ρ = some ρ' → ds.length = n) → ∀ {g : Tg}, ∀ ds ρ ρ', gC g gs ds ρ = some ρ' → ds.length = n + 1 := fun h g ds ρ ρ' e => by
  cases ds with
  | nil => cases e
  | cons d ds =>
    obtain ⟨ρ1, e1, e2⟩ := Option.bind_eq_some_iff.mp (show (g d ρ).bind (fun ρ' => gs ds ρ') = some ρ' from e)
    rw [List.length_cons, h _ _ _ e2]
theorem gE_len : ∀ ds ρ ρ', gE ds ρ = some ρ' → ds.length = 0 := fun ds ρ ρ' e => by
  cases ds with
  | nil => rfl
  | cons d ds => cases e
theorem kT {n : Nat} (h : PG X e (gTup X.K n (tGs X.K is gs))) (hn : ∀ ds ρ ρ', gs ds ρ = some ρ' → ds.length = n) : PG X e (tG X.K is (gT gs)) := pg_imp h fun v σ H Q => by
  rintro ⟨c, os, ρ, μ, d, ρ', r, p, e, h⟩
  unfold gT at e
  split at e
  · rename_i ds
    obtain ⟨a, vs, z, g1, g2⟩ := p.inv_tup
    subst z
    exact ⟨a, vs, rfl, vw_le.sqT g1, by rw [g2.length]; exact hn _ _ _ e, c, os, ρ, μ, ds, ρ', r, g2, e, h⟩
  · cases e
end
/-! ### what is walked -/
def Ct.hold (c : Ct) (G : Hp) : Ct := { c with He := fun b => (G b).or (c.He b) }
def YD (K : PySem.W.Frag) (T : List Addr) (G : Hp) (ds : List D) : Nat → Hp → V → Hp → Prop := fun i H x H' => ∃ d, ds[i]? = some d ∧
  ((H' = H ∧ Rp K T G x d) ∨ ∃ p u v du dv, x = .ref p ∧ H p = none ∧ H' = upd H p (.tup [u, v]) ∧ d = .tup [du, dv] ∧ Rp K T G u du ∧ Rp K T G v dv)
def tI (K : PySem.W.Frag) (cl : Nat → Addr) (W : WX) (f : XL) : TI := fun σ H R => ∃ c os ρ μ, Rl K c os ρ μ σ H ∧ Out (f ρ μ) (fun ds μ' => ∀ J H1, Rl K c os ρ μ' σ H1 → Kp c H H1 → (∃ Gp, (∀ H2, Exts (vw c os H1) H2 → Gp H2) ∧ Walk J ds.length Gp (YD K c.T (vw c os H1) ds)) → R J H1) (EOk K cl W c os ρ σ H)
theorem pi_imp {X : Cx} {tg e : Expr} {t t' : TI} (h : PI X tg e t) (i : ∀ σ H R, t' σ H R → t σ H R) : PI X tg e t' := ⟨fun pins s σ H R I q => h.run pins s σ H R I (i σ H R q)⟩
theorem pi_or {X : Cx} {tg e : Expr} {t t' : TI} (h : PI X tg e t) (h' : PI X tg e t') : PI X tg e (fun σ H R => t σ H R ∨ t' σ H R) := ⟨fun pins s σ H R I q => q.elim (h.run pins s σ H R I) (h'.run pins s σ H R I)⟩
section
variable {K : PySem.W.Frag} {c : Ct} {os : List (Option Addr)} {ρ : Env} {μ : Store} {σ : L2.St} {H H1 : Hp} {G : Hp}
theorem Rl.hold (r : Rl K c os ρ μ σ H) : Rl K (c.hold (vw c os H)) os ρ μ σ H where
  lo := r.lo
  lr := r.lr
  sl := r.sl
  inj := r.inj
  own := fun a h => by
    obtain ⟨h1, h2, h3⟩ := r.own a h
    refine ⟨h1, h2, ?_⟩
    show (vw c os H a).or (c.He a) = none
    have z : vw c os H a = none := by
      cases e : vw c os H a with
      | none => rfl
      | some o => exact absurd h (vw_some.mp e).2.2.2
    rw [z, h3]; rfl
  tA := r.tA
  tn := r.tn
  sm := r.sm
  st := r.st
  keep := fun b o h n => by
    have h' : (vw c os H b).or (c.He b) = some o := h
    cases e : vw c os H b with
    | none => rw [e] at h'; exact r.keep b o h' n
    | some u => rw [e] at h'; cases h'; exact (vw_some.mp e).1
  dom := r.dom
/-- what is held stood at H1 -/
theorem Rl.unhold (r : Rl K (c.hold G) os ρ μ σ H) (hk : ∀ b o, c.He b = some o → b ∉ c.T → (c.hold G).He b = some o) : Rl K c os ρ μ σ H where
  lo := r.lo
  lr := r.lr
  sl := r.sl
  inj := r.inj
  own := fun a h => by
    obtain ⟨h1, h2, h3⟩ := r.own a h
    refine ⟨h1, h2, ?_⟩
    have h3' : (G a).or (c.He a) = none := h3
    cases e : G a with
    | none => rw [e] at h3'; exact h3'
    | some u => rw [e] at h3'; cases h3'
  tA := r.tA
  tn := r.tn
  sm := r.sm
  st := r.st
  keep := fun b o h n => r.keep b o (hk b o h n) n
  dom := r.dom
theorem Rl.holds (r : Rl K c os ρ μ σ H) : ∀ b o, c.He b = some o → b ∉ c.T → (c.hold (vw c os H)).He b = some o := fun b o h n => by
  show (vw c os H b).or (c.He b) = some o
  cases e : vw c os H b with
  | none => exact h
  | some u =>
    have := r.keep b o h n
    rw [(vw_some.mp e).1] at this
    exact this
theorem Fr.unhold {a : Addr} {d : D} (f : Fr K (c.hold G) os ρ μ σ H a d) (hk : ∀ b o, c.He b = some o → b ∉ c.T → (c.hold G).He b = some o) : Fr K c os ρ μ σ H a d where
  rl := Rl.unhold (c := c.av a) (G := G) f.rl hk
  ow := f.ow
  nA := f.nA
  nT := f.nT
  no := f.no
  he := by
    have h3' : (G a).or (c.He a) = none := f.he
    cases e : G a with
    | none => rw [e] at h3'; exact h3'
    | some u => rw [e] at h3'; cases h3'
theorem SOut.hold {cl : Nat → Addr} {W : WX} {fr : Bool} {E : Ends} {r : SRes} (h : SOut K cl W fr c E r) (hk : ∀ b o, c.He b = some o → b ∉ c.T → (c.hold G).He b = some o) : SOut K cl W fr (c.hold G) E r := by
  cases r with
  | nx ρ μ => exact fun os σ H r => h os σ H (r.unhold hk)
  | bk ρ μ => exact fun os σ H r => h os σ H (r.unhold hk)
  | ct ρ μ => exact fun os σ H r => h os σ H (r.unhold hk)
  | rt d μ =>
    cases fr with
    | false => exact fun v os ρ σ H r p => h v os ρ σ H (r.unhold hk) p
    | true => exact fun a os ρ σ H f => h a os ρ σ H (f.unhold hk)
  | exc x ρ μ => exact fun e dx os σ H r ex => h e dx os σ H (r.unhold hk) ex
  | fail => exact h
/-- what is held is seen -/
theorem Rl.sees (r : Rl K (c.hold G) os ρ μ σ H) (hG : ∀ b o, G b = some o → b ∉ c.T ∧ ¬ c.A b) : Exts G (vw c os H) :=
  Rl.seesOld (c := c.hold G) r (fun b o h => by
    show (G b).or (c.He b) = some o
    rw [h]; rfl) hG
end
/-! ### for -/
def sForL (g : Tg) (F : SD) : List D → SD
  | [] => sNext
  | d :: ds => fun ρ μ => match g d ρ with
    | none => .fail
    | some ρ1 => match F ρ1 μ with
      | .nx ρ' μ' => sForL g F ds ρ' μ'
      | .ct ρ' μ' => sForL g F ds ρ' μ'
      | .bk ρ' μ' => .nx ρ' μ'
      | r => r
def sFor (f : XL) (g : Tg) (F : SD) : SD := fun ρ μ => (f ρ μ).st ρ fun ds μ' => sForL g F ds ρ μ'
theorem YD.rp {K : PySem.W.Frag} {c : Ct} {os os0 : List (Option Addr)} {ρ : Env} {μ : Store} {σ : L2.St} {H0 H H' : Hp} {ds : List D} {i : Nat} {x : V} (y : YD K c.T (vw c os0 H0) ds i H x H') (r : Rl K (c.hold (vw c os0 H0)) os ρ μ σ H) :
    ∃ d, ds[i]? = some d ∧ Rl K (c.hold (vw c os0 H0)) os ρ μ σ H' ∧ Rp K c.T (vw c os H') x d ∧ Kp c H H' := by
  have hG : ∀ b o, vw c os0 H0 b = some o → b ∉ c.T ∧ ¬ c.A b := fun b o h => ⟨(vw_some.mp h).2.2.1, (vw_some.mp h).2.1⟩
  obtain ⟨d, e, y⟩ := y
  have s := r.sees hG
  rcases y with ⟨rfl, p⟩ | ⟨p, u, v, du, dv, rfl, n, rfl, rfl, pu, pv⟩
  · exact ⟨d, e, r, p.mono s, Kp.refl _ _⟩
  · have q := r.new (o := .tup [u, v]) n
    refine ⟨_, e, q, .tup (.inl (.inl (Rl.seen (c := c.hold (vw c os0 H0)) r n))) (.cons ?_ (.cons ?_ .nil)), Kp.new n⟩
    · exact (pu.mono s).mono (vw_mono (Exts.new n))
    · exact (pv.mono s).mono (vw_mono (Exts.new n))
section
variable {X : Cx} {cl : Nat → Addr} {W : WX} {fr : Bool} {f : XL} {g : Tg} {F : SD} {s0 : Stmt} {is : List Nat}
theorem hFor (h : PS X s0 (tFor (tI X.K cl W f) (tG X.K is g) (tS X.K cl W fr F))) : PS X s0 (tS X.K cl W fr (sFor f g F)) := ps_imp h fun E σ H => by
  rintro ⟨c, os, ρ, μ, r, h⟩
  refine ⟨c, os, ρ, μ, r, (SOut.st h).imp (fun ds μ1 h1 => ?_) fun _ _ q => q⟩
  intro J H1 r1 e1 ⟨Gp, hGp, w⟩
  have hk := r1.holds
  have r1h := r1.hold
  have hG : ∀ b o, vw c os H1 b = some o → b ∉ c.T ∧ ¬ c.A b := fun b o h => ⟨(vw_some.mp h).2.2.1, (vw_some.mp h).2.1⟩
  refine for_it w (fun i σ H => ∃ os' ρ μ, Rl X.K (c.hold (vw c os H1)) os' ρ μ σ H ∧ SOut X.K cl W fr (c.hold (vw c os H1)) E (sForL g F (ds.drop i) ρ μ)) ⟨os, ρ, μ1, r1h, SOut.hold h1 hk⟩ ?_ ?_ ?_
  · rintro i σ H _ ⟨os', ρ, μ, r, _⟩
    exact hGp _ ((r.sees hG).trans vw_le)
  · rintro i x σ H H' hi ⟨os', ρ, μ, r, h⟩ y
    obtain ⟨d, e, r', p, k⟩ := y.rp r
    have hd : ds.drop i = d :: ds.drop (i + 1) := by
      obtain ⟨hl, e'⟩ := List.getElem?_eq_some_iff.mp e
      rw [← e']
      exact List.drop_eq_getElem_cons hl
    rw [hd] at h
    unfold sForL at h
    cases eg : g d ρ with
    | none => rw [eg] at h; exact h.elim
    | some ρ1 =>
      rw [eg] at h
      refine ⟨c.hold (vw c os H1), os', ρ, μ, d, ρ1, r', p, eg, fun os2 σ2 r2 s2 => ?_⟩
      refine ⟨c.hold (vw c os H1), os2, ρ1, μ, r2, ?_⟩
      have h' : SOut X.K cl W fr (c.hold (vw c os H1)) E (match F ρ1 μ with
        | .nx ρ' μ' => sForL g F (ds.drop (i + 1)) ρ' μ'
        | .ct ρ' μ' => sForL g F (ds.drop (i + 1)) ρ' μ'
        | .bk ρ' μ' => .nx ρ' μ'
        | r => r) := h
      cases eF : F ρ1 μ with
      | nx ρ' μ' => rw [eF] at h'; exact fun os' σ' H' r' => ⟨os', ρ', μ', r', h'⟩
      | ct ρ' μ' => rw [eF] at h'; exact fun os' σ' H' r' => ⟨os', ρ', μ', r', h'⟩
      | bk ρ' μ' => rw [eF] at h'; exact h'
      | rt d μ' => rw [eF] at h'; exact h'
      | exc x ρ' μ' => rw [eF] at h'; exact h'
      | fail => rw [eF] at h'; exact h'
  · rintro σ H ⟨os', ρ, μ, r, h⟩
    rw [List.drop_length] at h
    exact h os' σ H r
end
end DC
set_option Elab.async false
set_option linter.all false
set_option maxRecDepth 100000
set_option maxHeartbeats 2000000
/-! DC: comprehensions, several values at once, sources of walks, cells, defs. -/
namespace DC
open PySem PySem.Spec PyProof.Rows L2
section
variable {K : PySem.W.Frag} {c : Ct} {os os2 : List (Option Addr)} {ρ ρ2 : Env} {μ μ' : Store} {σ σ2 : L2.St} {H H' : Hp} {a : Addr} {o : HO}
theorem Rl.keepX (r : Rl K c os ρ μ σ H) (q : Rl K c os2 ρ2 μ' σ2 H') (k : Kp c H H') : Rl K c os ρ μ' σ H' where
  lo := r.lo
  lr := r.lr
  sl := fun j o s x h1 h2 h3 => by
    have z := r.sl j o s x h1 h2 h3
    have hm : ∀ b, o = some b → b ∉ c.T := fun b eb => (r.own b (by rw [← eb]; exact List.mem_of_getElem? h1)).1
    unfold SlAt at z ⊢
    split at z
    · trivial
    · exact z.mono k.vw
    · exact ⟨z.1, z.2.mono k.vw (fun o h => k _ _ h (hm _ rfl))⟩
    · exact z.elim
  inj := r.inj
  own := r.own
  tA := r.tA
  tn := r.tn
  sm := q.sm
  st := q.st
  keep := fun b o h1 h2 => k b o (r.keep b o h1 h2) h2
  dom := fun b h => by
    obtain ⟨o, z, nu⟩ := r.dom b h
    exact ⟨o, k b o z fun y => r.tA b y h, nu⟩
theorem vw_updA (ha : c.A a) : vw c os (upd H a o) = vw c os H := by
  funext b
  unfold vw
  by_cases hb : (c.A b ∨ b ∈ c.T ∨ some b ∈ os)
  · rw [if_pos hb, if_pos hb]
  · rw [if_neg hb, if_neg hb, upd_ne]
    rintro rfl
    exact hb (.inl ha)
theorem Rl.updA (r : Rl K c os ρ μ σ H) (ha : c.A a) (he : c.He a = none) (nt : NoT o := by intro _ q; cases q) : Rl K c os ρ μ σ (upd H a o) where
  lo := r.lo
  lr := r.lr
  sl := fun j u s x h1 h2 h3 => by
    have z := r.sl j u s x h1 h2 h3
    have hm : ∀ b, u = some b → b ≠ a := fun b eb q => (r.own b (by rw [← eb]; exact List.mem_of_getElem? h1)).2.1 (by rw [q]; exact ha)
    rw [vw_updA ha]
    unfold SlAt at z ⊢
    split at z
    · trivial
    · exact z
    · exact ⟨z.1, z.2.mono (Exts.refl _) (fun w h => by rw [upd_ne (hm _ rfl)]; exact h)⟩
    · exact z.elim
  inj := r.inj
  own := r.own
  tA := r.tA
  tn := r.tn
  sm := r.sm
  st := fun n b ds h1 h2 => by
    have nb : b ≠ a := fun q => r.tA b (List.mem_of_getElem? h1) (by rw [q]; exact ha)
    rw [upd_ne nb]
    exact r.st n b ds h1 h2
  keep := fun b u h1 h2 => by
    have nb : b ≠ a := fun q => by subst q; rw [he] at h1; cases h1
    rw [upd_ne nb]
    exact r.keep b u h1 h2
  dom := fun b h => by
    by_cases e : b = a
    · subst e; exact ⟨o, upd_same, nt⟩
    · obtain ⟨u, z, nu⟩ := r.dom b h
      exact ⟨u, by rw [upd_ne e]; exact z, nu⟩
/-- the slots at vs forgotten (none of them an own container) -/
def wipeE (ρ : Env) : List Nat → Env
  | [] => ρ
  | v :: vs => (wipeE ρ vs).set v .no
def vsOk (ρ : Env) (vs : List Nat) : Bool := vs.all fun v => match ρ[v]? with
  | some (.ow _) => false
  | _ => true
theorem Rl.noOwn (r : Rl K c os ρ μ σ H) {i : Nat} (h : ∀ d, ρ[i]? ≠ some (.ow d)) : ∀ a, os[i]? ≠ some (some a) := fun a h1 => by
  have hlt : i < os.length := (List.getElem?_eq_some_iff.mp h1).1
  have h2 : i < ρ.length := by rw [r.lr, ← r.lo]; exact hlt
  have h3 : i < σ.length := by rw [← r.lo]; exact hlt
  have q := r.sl i _ _ _ h1 (List.getElem?_eq_getElem h2) (List.getElem?_eq_getElem h3)
  cases e1 : ρ[i] with
  | no => rw [e1] at q; cases e2 : σ[i] <;> rw [e2] at q <;> simp [SlAt] at q
  | fz d => rw [e1] at q; cases e2 : σ[i] <;> rw [e2] at q <;> simp [SlAt] at q
  | ow d => exact h d (by rw [List.getElem?_eq_getElem h2, e1])
theorem vsOk_no {ρ : Env} {vs : List Nat} (h : vsOk ρ vs = true) {i : Nat} (hi : i ∈ vs) : ∀ d, ρ[i]? ≠ some (.ow d) := fun d e => by
  have := List.all_eq_true.mp h i hi
  rw [e] at this
  cases this
theorem set_none_eq {os : List (Option Addr)} {i : Nat} (h : ∀ a, os[i]? ≠ some (some a)) : os.set i none = os := by
  apply List.ext_getElem?
  intro j
  by_cases e : i = j
  · subst e
    rw [List.getElem?_set, if_pos rfl]
    by_cases hl : i < os.length
    · rw [if_pos hl, List.getElem?_eq_getElem hl]
      cases e2 : os[i] with
      | none => rfl
      | some a => exact absurd (by rw [List.getElem?_eq_getElem hl, e2]) (h a)
    · rw [if_neg hl, List.getElem?_eq_none (by omega)]
  · rw [List.getElem?_set_ne e]
theorem Rl.wipe (r : Rl K c os ρ μ σ H) : ∀ vs : List Nat, vsOk ρ vs = true → Rl K c os (wipeE ρ vs) μ (L2.wipe σ vs) H
  | [], _ => r
  | v :: vs, h => by
    unfold vsOk at h
    rw [List.all_cons, Bool.and_eq_true] at h
    have q := (Rl.wipe r vs h.2).drop (i := v) none
    have nv : ∀ a, os[v]? ≠ some (some a) := r.noOwn (vsOk_no (vs := [v]) (by unfold vsOk; rw [List.all_cons, h.1]; rfl) (by simp))
    rw [set_none_eq nv] at q
    exact q
end
/-! ### comprehensions -/
def bTrue : XB := fun _ μ => .ok true μ
def lcL (g : Tg) (t : XB) (e : XD) (ρw : Env) : List D → Store → Res (List D)
  | [], μ => .ok [] μ
  | d :: ds, μ => match g d ρw with
    | none => .fail
    | some ρ2 => match t ρ2 μ with
      | .ok true μ1 => (match e ρ2 μ1 with
        | .ok y μ2 => (match lcL g t e ρw ds μ2 with
          | .ok ys μ3 => .ok (y :: ys) μ3
          | _ => .fail)
        | _ => .fail)
      | .ok false μ1 => lcL g t e ρw ds μ1
      | _ => .fail
def xLc (f : XL) (g : Tg) (t : XB) (e : XD) (vs : List Nat) : XD := fun ρ μ => (f ρ μ).bind fun ds μ1 => if vsOk ρ vs && lenOk ds then (match lcL g t e (wipeE ρ vs) ds μ1 with
    | .ok ys μ2 => .ok (.lst ys) μ2
    | _ => .fail) else .fail
theorem YD.rp' {K : PySem.W.Frag} {c : Ct} {os : List (Option Addr)} {ρ : Env} {μ : Store} {σ : L2.St} {G H H' : Hp} {ds : List D} {i : Nat} {x : V} (hG : ∀ b o, G b = some o → b ∉ c.T ∧ ¬ c.A b) (y : YD K c.T G ds i H x H') (r : Rl K (c.hold G) os ρ μ σ H) :
    ∃ d, ds[i]? = some d ∧ Rl K (c.hold G) os ρ μ σ H' ∧ Rp K c.T (vw c os H') x d ∧ Kp c H H' := by
  obtain ⟨d, e, y⟩ := y
  have s := r.sees hG
  rcases y with ⟨rfl, p⟩ | ⟨p, u, v, du, dv, rfl, n, rfl, rfl, pu, pv⟩
  · exact ⟨d, e, r, p.mono s, Kp.refl _ _⟩
  · have q := r.new (o := .tup [u, v]) n
    refine ⟨_, e, q, .tup (.inl (.inl (Rl.seen (c := c.hold G) r n))) (.cons ?_ (.cons ?_ .nil)), Kp.new n⟩
    · exact (pu.mono s).mono (vw_mono (Exts.new n))
    · exact (pv.mono s).mono (vw_mono (Exts.new n))
abbrev W0 : WX := fun _ _ _ _ => False
theorem pts_imp {X : Cx} {e : List Expr} {t t' : TT} (h : PTs X e t) (i : ∀ σ H Q, t' σ H Q → t σ H Q) : PTs X e t' := ⟨fun pins s σ H Q I q => h.run pins s σ H Q I (i σ H Q q)⟩
section
variable {X : Cx} {cl : Nat → Addr} {W : WX} {f : XL} {g : Tg} {t : XB} {fe : XD} {is vs : List Nat} {e : Expr}
theorem bNilT : PTs X [] (tT X.K cl W bTrue) := pts_imp pts_nil fun σ H Q => by
  rintro ⟨c, os, ρ, μ, r, h⟩
  exact h H r (Kp.refl _ _)
theorem lc_imp (hv : ∀ i ∈ is, i ∈ vs) (σ : L2.St) (H : Hp) (Q : VK) (h : tF X.K cl W (xLc f g t fe vs) σ H Q) : tLc (tI X.K cl W f) (tG X.K is g) (tT X.K cl W0 t) (tE X.K cl W0 fe) vs σ H Q := by
  obtain ⟨c, os, ρ, μ, r, h⟩ := h
  refine ⟨c, os, ρ, μ, r, (Out.bind h).imp (fun ds μ1 h1 => ?_) fun _ _ q => q⟩
  intro J H1 r1 e1 ⟨Gp, hGp, w⟩
  by_cases hok : (vsOk ρ vs && lenOk ds) = true
  · rw [if_pos hok] at h1
    rw [Bool.and_eq_true] at hok
    obtain ⟨hvs, hlen⟩ := hok
    cases eR : lcL g t fe (wipeE ρ vs) ds μ1 with
    | fail => rw [eR] at h1; exact h1.elim
    | exc x m => rw [eR] at h1; exact h1.elim
    | ok ys μf =>
      rw [eR] at h1
      intro Dl nD
      have hG : ∀ b o, vw c os H1 b = some o → b ∉ c.T ∧ ¬ (c.av Dl).A b := fun b o h => by
        obtain ⟨g1, g2, g3, g4⟩ := vw_some.mp h
        exact ⟨g3, fun z => z.elim g2 fun y => ne_of_none g1 nD y⟩
      obtain ⟨f1, f2, f3, f4⟩ := r1.fresh nD
      -- the state at the start
      have r1h : Rl X.K ((c.av Dl).hold (vw c os H1)) os ρ μ1 σ (upd H1 Dl (.lst [])) := ((Rl.hold r1).av (c := c.hold (vw c os H1)) (o := .lst []) nD).1
      have heD : ((c.av Dl).hold (vw c os H1)).He Dl = none := by
        show (vw c os H1 Dl).or (c.He Dl) = none
        cases e : vw c os H1 Dl with
        | none => exact f4
        | some u => rw [(vw_some.mp e).1] at nD; cases nD
      refine lc_it w (fun i H => ∃ μi acc da rest, Rl X.K ((c.av Dl).hold (vw c os H1)) os ρ μi σ H ∧ Kp c H1 H ∧ H Dl = some (.lst acc) ∧ RpA X.K c.T (vw (c.av Dl) os H) acc da ∧ da.length ≤ i ∧ lcL g t fe (wipeE ρ vs) (ds.drop i) μi = .ok rest μf ∧ da ++ rest = ys)
        ⟨μ1, [], [], ys, r1h, Kp.new nD, upd_same, .nil, Nat.le_refl _, eR, rfl⟩ ?_ ?_ ?_
      · rintro i H _ ⟨μi, acc, da, rest, r, _⟩
        exact hGp _ ((Rl.sees (c := c.av Dl) r hG).trans vw_le)
      · rintro i x H H' hi ⟨μi, acc, da, rest, r, k, hD, pa, hl, eL, eq⟩ y
        obtain ⟨d, ed, r', p, k'⟩ := YD.rp' (c := c.av Dl) hG y r
        have hd : ds.drop i = d :: ds.drop (i + 1) := by
          obtain ⟨hl, e'⟩ := List.getElem?_eq_some_iff.mp ed
          rw [← e']
          exact List.drop_eq_getElem_cons hl
        have hsz : da.length < sizeLine := by
          have z : ds.length ≤ 1000000 := Nat.le_of_ble_eq_true hlen
          rw [sizeLine_eq]; omega
        rw [hd] at eL
        unfold lcL at eL
        cases eg : g d (wipeE ρ vs) with
        | none => rw [eg] at eL; cases eL
        | some ρ2 =>
          rw [eg] at eL
          refine ⟨_, os, wipeE ρ vs, μi, d, ρ2, r'.wipe vs hvs, p, eg, fun os2 σ2 r2 s2 => ⟨by rw [s2.wp vs hv, wipe_idem], ?_⟩⟩
          have eos : os2 = os := s2.oo fun i hi => r.noOwn (vsOk_no hvs (hv i hi))
          subst eos
          refine ⟨_, os2, ρ2, μi, r2, ?_⟩
          have eL' : (match t ρ2 μi with
            | .ok true μ1 => (match fe ρ2 μ1 with
              | .ok y μ2 => (match lcL g t fe (wipeE ρ vs) (ds.drop (i + 1)) μ2 with
                | .ok ys μ3 => .ok (y :: ys) μ3
                | _ => .fail)
              | _ => .fail)
            | .ok false μ1 => lcL g t fe (wipeE ρ vs) (ds.drop (i + 1)) μ1
            | _ => .fail) = Res.ok rest μf := eL
          cases et : t ρ2 μi with
          | fail => rw [et] at eL'; cases eL'
          | exc x m => rw [et] at eL'; cases eL'
          | ok b μ2 =>
            rw [et] at eL'
            intro H3 r3 k3
            have kk : Kp c H H3 := k'.trans k3
            have r3' := r.keepX r3 (H' := H3) kk
            have hD3 : H3 Dl = some (.lst acc) := kk _ _ hD f2
            have pa3 : RpA X.K c.T (vw (c.av Dl) os2 H3) acc da := pa.mono (Kp.vw (c := c.av Dl) kk)
            cases b with
            | false =>
              rw [if_neg Bool.false_ne_true]
              exact ⟨μ2, acc, da, rest, r3', k.trans kk, hD3, pa3, by omega, eL', eq⟩
            | true =>
              rw [if_pos rfl]
              refine ⟨_, os2, ρ2, μ2, r3, ?_⟩
              have eL2 : (match fe ρ2 μ2 with
                | .ok y μ2 => (match lcL g t fe (wipeE ρ vs) (ds.drop (i + 1)) μ2 with
                  | .ok ys μ3 => .ok (y :: ys) μ3
                  | _ => .fail)
                | _ => .fail) = Res.ok rest μf := eL'
              cases ee : fe ρ2 μ2 with
              | fail => rw [ee] at eL2; cases eL2
              | exc x m => rw [ee] at eL2; cases eL2
              | ok dy μ3 =>
                rw [ee] at eL2
                intro vy H4 r4 k4 p4
                have eL3 : (match lcL g t fe (wipeE ρ vs) (ds.drop (i + 1)) μ3 with
                  | .ok ys μ3 => .ok (dy :: ys) μ3
                  | _ => .fail) = Res.ok rest μf := eL2
                cases er : lcL g t fe (wipeE ρ vs) (ds.drop (i + 1)) μ3 with
                | fail => rw [er] at eL3; cases eL3
                | exc x m => rw [er] at eL3; cases eL3
                | ok zs μ4 =>
                  rw [er] at eL3
                  cases eL3
                  have r4' := r3'.keepX r4 (H' := H4) k4
                  have hD4 : H4 Dl = some (.lst acc) := k4 _ _ hD3 f2
                  have hA : ((c.av Dl).hold (vw c os2 H1)).A Dl := .inr rfl
                  refine ⟨acc, hD4, by rw [pa.length]; exact hsz, μ3, acc ++ [vy], da ++ [dy], zs, r4'.updA hA heD, ?_, upd_same, ?_, ?_, er, ?_⟩
                  · exact fun b o h n => by
                      rw [upd_ne (ne_of_none h nD)]
                      exact k4 b o (kk b o (k b o h n) n) n
                  · rw [vw_updA (c := c.av Dl) (.inr rfl)]
                    exact (pa3.mono (Kp.vw (c := c.av Dl) k4)).append (.cons p4 .nil)
                  · rw [List.length_append]; simp; omega
                  · rw [List.append_assoc]; exact eq
      · rintro H ⟨μi, acc, da, rest, r, k, hD, pa, hl, eL, eq⟩
        rw [List.drop_length] at eL
        cases eL
        rw [List.append_nil] at eq
        subst eq
        have hk : ∀ b o, (c.av Dl).He b = some o → b ∉ (c.av Dl).T → ((c.av Dl).hold (vw c os H1)).He b = some o := r1.holds
        exact h1 Dl H ⟨Rl.unhold (c := c.av Dl) r hk, .lst hD pa, f1, f2, f3, f4⟩ (e1.trans k) (e1.nn nD f2)
  · rw [if_neg hok] at h1
    exact h1.elim
theorem dLc (h : PE X e (tLc (tI X.K cl W f) (tG X.K is g) (tT X.K cl W0 t) (tE X.K cl W0 fe) vs)) (hv : ∀ i ∈ is, i ∈ vs := by decide) : PE X e (tF X.K cl W (xLc f g t fe vs)) := pe_imp h (lc_imp hv)
end
end DC
set_option Elab.async false
set_option linter.all false
set_option maxRecDepth 100000
set_option maxHeartbeats 2000000
/-! DC: several values at once, sources of walks, cells, defs. -/
namespace DC
open PySem PySem.Spec PyProof.Rows L2
/-! ### several values at once, some of them new containers -/
def Ct.avs (c : Ct) (fa : List Addr) : Ct := { c with A := fun b => c.A b ∨ b ∈ fa }
theorem avs_nil (c : Ct) : c.avs [] = c := by
  cases c
  unfold Ct.avs
  congr 1
  funext b
  simp
theorem avs_cons (c : Ct) (a : Addr) (fa : List Addr) : (c.av a).avs fa = c.avs (a :: fa) := by
  cases c
  unfold Ct.avs Ct.av
  congr 1
  funext b
  simp [or_assoc]
/-- a flagged list of values: (true, d) is a new container -/
inductive MA (K : PySem.W.Frag) (T : List Addr) (Hv H : Hp) : List Addr → List V → List (Bool × D) → Prop
  | nil : MA K T Hv H [] [] []
  | val {fa : List Addr} {v : V} {vs : List V} {d : D} {ds : List (Bool × D)} : Rp K T Hv v d → MA K T Hv H fa vs ds → MA K T Hv H fa (v :: vs) ((false, d) :: ds)
  | new {fa : List Addr} {a : Addr} {vs : List V} {d : D} {ds : List (Bool × D)} : OwAt K T Hv H a d → MA K T Hv H fa vs ds → MA K T Hv H (a :: fa) (.ref a :: vs) ((true, d) :: ds)
theorem MA.mono {K : PySem.W.Frag} {T : List Addr} {Hv Hv' H H' : Hp} (e : Exts Hv Hv') : ∀ {fa : List Addr} {vs : List V} {ds : List (Bool × D)}, (∀ a ∈ fa, ∀ o, H a = some o → H' a = some o) → MA K T Hv H fa vs ds → MA K T Hv' H' fa vs ds
  | _, _, _, _, .nil => .nil
  | _, _, _, k, .val p r => .val (p.mono e) (MA.mono e k r)
  | _, _, _, k, .new p r => .new (p.mono e (k _ (by simp))) (MA.mono e (fun a h => k a (List.mem_cons_of_mem _ h)) r)
theorem MA.length {K : PySem.W.Frag} {T : List Addr} {Hv H : Hp} : ∀ {fa : List Addr} {vs : List V} {ds : List (Bool × D)}, MA K T Hv H fa vs ds → vs.length = ds.length
  | _, _, _, .nil => rfl
  | _, _, _, .val _ r => by rw [List.length_cons, List.length_cons, r.length]
  | _, _, _, .new _ r => by rw [List.length_cons, List.length_cons, r.length]
structure Mr (K : PySem.W.Frag) (c : Ct) (os : List (Option Addr)) (ρ : Env) (μ : Store) (σ : L2.St) (Hs H : Hp) (fa : List Addr) (vs : List V) (ds : List (Bool × D)) : Prop where
  rl : Rl K (c.avs fa) os ρ μ σ H
  ma : MA K c.T (vw (c.avs fa) os H) H fa vs ds
  nd : fa.Nodup
  fr : ∀ a ∈ fa, Hs a = none ∧ ¬ c.A a ∧ a ∉ c.T ∧ some a ∉ os ∧ c.He a = none
abbrev XM := Env → Store → Res (List (Bool × D))
def tM (K : PySem.W.Frag) (cl : Nat → Addr) (W : WX) (f : XM) : TA := fun σ H Q => ∃ c os ρ μ, Rl K c os ρ μ σ H ∧ Out (f ρ μ) (fun ds μ' => ∀ fa vs H', Mr K c os ρ μ' σ H H' fa vs ds → Kp c H H' → Q vs H') (EOk K cl W c os ρ σ H)
def mNil : XM := fun _ μ => .ok [] μ
def mVal (f : XD) (fs : XM) : XM := fun ρ μ => (f ρ μ).bind fun d μ1 => (fs ρ μ1).bind fun ds μ2 => .ok ((false, d) :: ds) μ2
def mNew (f : XD) (fs : XM) : XM := fun ρ μ => (f ρ μ).bind fun d μ1 => (fs ρ μ1).bind fun ds μ2 => .ok ((true, d) :: ds) μ2
section
variable {X : Cx} {cl : Nat → Addr} {W : WX} {e : Expr} {es : List Expr} {f : XD} {fs : XM}
theorem jNil : PA X [] (tM X.K cl W mNil) := pa_imp pa_nil fun σ H Q => by
  rintro ⟨c, os, ρ, μ, r, h⟩
  exact h [] [] H ⟨by rw [avs_nil]; exact r, .nil, List.nodup_nil, fun a h => by cases h⟩ (Kp.refl _ _)
theorem jVal (ha : PE X e (tE X.K cl W f)) (hr : PA X es (tM X.K cl W fs)) (hs : starEach (e :: es) X.env = (false, eval e X.env) :: starEach es X.env := by rfl) : PA X (e :: es) (tM X.K cl W (mVal f fs)) := pa_imp (pa_cons ha hr hs) fun σ H Q => by
  rintro ⟨c, os, ρ, μ, r, h⟩
  refine ⟨c, os, ρ, μ, r, (Out.bind h).imp (fun d1 μ1 h1 => ?_) fun _ _ q => q⟩
  intro v1 H1 r1 e1 p1
  refine ⟨c, os, ρ, μ1, r1, (Out.bind h1).imp (fun ds μ2 h2 => ?_) fun _ _ q => q.mono e1⟩
  intro fa vs H2 m k
  refine h2 fa _ H2 ⟨m.rl, .val (p1.mono ?_) m.ma, m.nd, fun a ha => ?_⟩ (e1.trans k)
  · intro b o hb
    obtain ⟨g1, g2, g3, g4⟩ := vw_some.mp hb
    exact vw_some.mpr ⟨k b o g1 g3, fun z => z.elim g2 (fun y => by rw [(m.fr b y).1] at g1; cases g1), g3, g4⟩
  · obtain ⟨q1, q2, q3, q4, q5⟩ := m.fr a ha
    refine ⟨?_, q2, q3, q4, q5⟩
    cases eh : H a with
    | none => rfl
    | some o => rw [e1 a o eh q3] at q1; cases q1
theorem EOk.av {K : PySem.W.Frag} {c : Ct} {os : List (Option Addr)} {ρ : Env} {μ : Store} {σ : L2.St} {H : Hp} {x : Exn} {a : Addr} (h : EOk K cl W c os ρ σ H x μ) (hp : x.pay = none) (h1 : ¬ c.A a) (h2 : a ∉ c.T) (h3 : some a ∉ os) (h4 : c.He a = none) : EOk K cl W (c.av a) os ρ σ H x μ := fun e dx H' q k ex =>
  h e dx H' (q.move rfl vw_av (fun _ _ _ h => h) (fun _ _ _ h => h) (fun b hb => ⟨fun z => (q.own b hb).2.1 (.inl z), (q.own b hb).2.2⟩) (fun b hb z => q.tA b hb (.inl z)) q.keep (fun b hb => q.dom b (.inl hb))) k (by
    unfold ExAt at ex ⊢
    rw [hp] at ex ⊢
    exact ex)
theorem jNew (ha : PE X e (tF X.K cl W f)) (hr : PA X es (tM X.K cl W fs)) (hp : Plain fs) (hs : starEach (e :: es) X.env = (false, eval e X.env) :: starEach es X.env := by rfl) : PA X (e :: es) (tM X.K cl W (mNew f fs)) := pa_imp (pa_cons ha hr hs) fun σ H Q => by
  rintro ⟨c, os, ρ, μ, r, h⟩
  refine ⟨c, os, ρ, μ, r, (Out.bind h).imp (fun d1 μ1 h1 => ?_) fun _ _ q => q⟩
  intro a H1 f1 e1 nH
  have h1' := Out.bind h1
  refine ⟨c.av a, os, ρ, μ1, f1.rl, ?_⟩
  cases eF : fs ρ μ1 with
  | fail => rw [eF] at h1'; exact h1'
  | exc x μ2 => rw [eF] at h1'; exact EOk.av (EOk.mono e1 h1') (hp _ _ _ _ eF) f1.nA f1.nT f1.no f1.he
  | ok ds μ2 =>
    rw [eF] at h1'
    intro fa vs H2 m k
    have ha : ∀ b ∈ fa, b ≠ a := fun b hb z => (m.fr b hb).2.1 (.inr z)
    obtain ⟨o, ho⟩ := f1.ow.there
    refine h1' (a :: fa) _ H2 ⟨by rw [← avs_cons]; exact m.rl, ?_, List.nodup_cons.mpr ⟨fun z => ha a z rfl, m.nd⟩, fun b hb => ?_⟩ (e1.trans k)
    · rw [← avs_cons]
      refine .new (f1.ow.mono ?_ fun o h => k a o h f1.nT) m.ma
      intro b o hb
      obtain ⟨g1, g2, g3, g4⟩ := vw_some.mp hb
      exact vw_some.mpr ⟨k b o g1 g3, fun z => z.elim g2 (fun y => by rw [(m.fr b y).1] at g1; cases g1), g3, g4⟩
    · rcases List.mem_cons.mp hb with z | z
      · subst z
        exact ⟨nH, f1.nA, f1.nT, f1.no, f1.he⟩
      · obtain ⟨q1, q2, q3, q4, q5⟩ := m.fr b z
        refine ⟨?_, fun y => q2 (.inl y), q3, q4, q5⟩
        cases eh : H b with
        | none => rfl
        | some o => rw [e1 b o eh q3] at q1; cases q1
end
end DC
set_option Elab.async false
set_option linter.all false
set_option maxRecDepth 100000
set_option maxHeartbeats 2000000
/-! DC: several values stored, sources of walks, cells, defs. -/
namespace DC
open PySem PySem.Spec PyProof.Rows L2
theorem avs_av (c : Ct) (a : Addr) (fa : List Addr) : (c.avs fa).av a = c.avs (a :: fa) := by
  cases c
  unfold Ct.avs Ct.av
  congr 1
  funext b
  simp only [List.mem_cons, eq_iff_iff]
  constructor
  · rintro ((h | h) | h)
    · exact .inl h
    · exact .inr (.inr h)
    · exact .inr (.inl h)
  · rintro (h | h | h)
    · exact .inl (.inl h)
    · exact .inr h
    · exact .inl (.inr h)
theorem vw_put {c : Ct} {os : List (Option Addr)} {H : Hp} {a : Addr} {i : Nat} : Exts (vw (c.av a) os H) (vw c (os.set i (some a)) H) := fun b o h => by
  obtain ⟨h1, h2, h3, h4⟩ := vw_some.mp h
  exact vw_some.mpr ⟨h1, fun q => h2 (.inl q), h3, fun q => (mem_set_some q).elim h4 fun z => h2 (.inr z)⟩
def setAll : List Nat → List (Bool × D) → Env → Option Env
  | [], [], ρ => some ρ
  | i :: is, (b, d) :: ds, ρ => setAll is ds (ρ.set i (if b then .ow d else .fz d))
  | _, _, _ => none
def setAllV : List Nat → List V → L2.St → L2.St
  | i :: is, v :: vs, σ => setAllV is vs (σ.set i (some v))
  | _, _, σ => σ
theorem set_all {K : PySem.W.Frag} {c : Ct} {μ : Store} {H : Hp} : ∀ {is : List Nat} {ds : List (Bool × D)} {fa : List Addr} {vs : List V} {os : List (Option Addr)} {ρ ρ' : Env} {σ : L2.St}, Rl K (c.avs fa) os ρ μ σ H → MA K c.T (vw (c.avs fa) os H) H fa vs ds → fa.Nodup → (∀ a ∈ fa, ¬ c.A a ∧ a ∉ c.T ∧ some a ∉ os ∧ c.He a = none) → setAll is ds ρ = some ρ' → ∃ os', Rl K c os' ρ' μ (setAllV is vs σ) H
  | [], [], _, _, _, _, _, _, r, m, _, _, e => by
    cases m
    cases e
    rw [avs_nil] at r
    exact ⟨_, r⟩
  | [], _ :: _, _, _, _, _, _, _, _, _, _, _, e => by cases e
  | _ :: _, [], _, _, _, _, _, _, _, _, _, _, e => by cases e
  | i :: is, (b, d) :: ds, _, _, os, ρ, ρ', σ, r, m, nd, hf, e => by
    cases m with
    | val p m =>
      exact show ∃ os', Rl K c os' ρ' μ (setAllV is _ (σ.set i _)) H from set_all (is := is) (ds := ds) (r.set p) (m.mono (vw_os fun a h => mem_set_none h) fun _ _ _ h => h) nd (fun a ha => ⟨(hf a ha).1, (hf a ha).2.1, fun z => (hf a ha).2.2.1 (mem_set_none z), (hf a ha).2.2.2⟩) e
    | @new fa a _ _ _ w m =>
      rw [← avs_av] at r m w
      obtain ⟨n1, n2⟩ := List.nodup_cons.mp nd
      obtain ⟨q1, q2, q3, q4⟩ := hf a (by simp)
      have f : Fr K (c.avs fa) os ρ μ σ H a d := ⟨r, w, fun z => z.elim q1 n1, q2, q3, q4⟩
      refine show ∃ os', Rl K c os' ρ' μ (setAllV is _ (σ.set i _)) H from set_all (is := is) (ds := ds) (f.put i) (m.mono vw_put fun _ _ _ h => h) n2 (fun x hx => ?_) e
      obtain ⟨k1, k2, k3, k4⟩ := hf x (List.mem_cons_of_mem _ hx)
      exact ⟨k1, k2, fun z => (mem_set_some z).elim k3 fun y => n1 (by rw [← y]; exact hx), k4⟩
def sPar (is : List Nat) (fs : XM) : SD := fun ρ μ => (fs ρ μ).st ρ fun ds μ' => match setAll is ds ρ with
  | some ρ' => .nx ρ' μ'
  | none => .fail
def gNames : List Nat → TGs
  | [] => gNil
  | i :: is => gCons (gName i) (gNames is)
theorem gNames_run : ∀ {is : List Nat} {vs : List V} {σ : L2.St} {H : Hp} {Q : L2.St → Hp → Prop}, vs.length = is.length → Q (setAllV is vs σ) H → gNames is vs σ H Q
  | [], [], _, _, _, _, q => ⟨rfl, q⟩
  | [], _ :: _, _, _, _, e, _ => by cases e
  | _ :: _, [], _, _, _, e, _ => by cases e
  | i :: is, v :: vs, σ, H, Q, e, q => ⟨v, vs, rfl, gNames_run (is := is) (Nat.succ.inj e) q⟩
theorem setAll_len : ∀ {is : List Nat} {ds : List (Bool × D)} {ρ ρ' : Env}, setAll is ds ρ = some ρ' → ds.length = is.length
  | [], [], _, _, _ => rfl
  | [], _ :: _, _, _, e => by cases e
  | _ :: _, [], _, _, e => by cases e
  | i :: is, (b, d) :: ds, ρ, ρ', e => by
    rw [List.length_cons, List.length_cons, setAll_len (show setAll is ds _ = some ρ' from e)]
section
variable {X : Cx} {cl : Nat → Addr} {W : WX} {fr : Bool} {fs : XM} {s0 : Stmt} {i j l : Nat}
theorem par_imp {is : List Nat} {E : Ends} {σ : L2.St} {H : Hp} (h : tS X.K cl W fr (sPar is fs) E σ H) : tM X.K cl W fs σ H fun vs H1 => vs.length = is.length ∧ E.nx (setAllV is vs σ) H1 := by
  obtain ⟨c, os, ρ, μ, r, h⟩ := h
  refine ⟨c, os, ρ, μ, r, (SOut.st h).imp (fun ds μ1 h1 => ?_) fun _ _ q => q⟩
  intro fa vs H1 m k
  cases e : setAll is ds ρ with
  | none => rw [e] at h1; exact h1.elim
  | some ρ' =>
    rw [e] at h1
    obtain ⟨os', r'⟩ := set_all m.rl m.ma m.nd (fun a ha => (m.fr a ha).2) e
    exact ⟨by rw [m.ma.length]; exact setAll_len e, h1 os' _ H1 r'⟩
theorem tM_mono {σ : L2.St} {H : Hp} {Q Q' : List V → Hp → Prop} (h : tM X.K cl W fs σ H Q) (i : ∀ vs H, Q vs H → Q' vs H) : tM X.K cl W fs σ H Q' := by
  obtain ⟨c, os, ρ, μ, r, h⟩ := h
  exact ⟨c, os, ρ, μ, r, h.imp (fun ds μ1 h1 fa vs H1 m k => i _ _ (h1 fa vs H1 m k)) fun _ _ q => q⟩
theorem hPar2 (h : PS X s0 (tPar i j (tM X.K cl W fs))) : PS X s0 (tS X.K cl W fr (sPar [i, j] fs)) := ps_imp h fun E σ H q => tM_mono (par_imp q) fun vs H1 ⟨hl, q⟩ => by
  match vs, hl with
  | [v, w], _ => exact ⟨v, w, rfl, q⟩
theorem hPar3 (h : PS X s0 (tPar3 i j l (tM X.K cl W fs))) : PS X s0 (tS X.K cl W fr (sPar [i, j, l] fs)) := ps_imp h fun E σ H q => tM_mono (par_imp q) fun vs H1 ⟨hl, q⟩ => by
  match vs, hl with
  | [u, v, w], _ => exact ⟨u, v, w, rfl, q⟩
/-- four and more names: by a tuple that is made and taken apart -/
theorem hParT {is : List Nat} (h : PS X s0 (tAsg (tTup (tM X.K cl W fs)) (gTup X.K is.length (gNames is)))) (hz : is.length ≤ 1000 := by decide) : PS X s0 (tS X.K cl W fr (sPar is fs)) := ps_imp h fun E σ H q => by
  obtain ⟨c, os, ρ, μ, r, h⟩ := q
  refine ⟨c, os, ρ, μ, r, (SOut.st h).imp (fun ds μ1 h1 => ?_) fun _ _ q => q⟩
  intro fa vs H1 m k
  cases e : setAll is ds ρ with
  | none => rw [e] at h1; exact h1.elim
  | some ρ' =>
    rw [e] at h1
    have hl : vs.length = is.length := by rw [m.ma.length]; exact setAll_len e
    refine ⟨by rw [hl]; exact Nat.le_trans hz (by rw [sizeLine_eq]; decide), fun p n => ⟨p, vs, rfl, .inl (.inl upd_same), hl, gNames_run hl ?_⟩⟩
    have r2 := m.rl.new (o := .tup vs) n
    have ma2 := m.ma.mono (vw_mono (c := c.avs fa) (os := os) (Exts.new (o := .tup vs) n)) (H' := upd H1 p (.tup vs)) fun a ha o ho => by rw [upd_ne (ne_of_none ho n)]; exact ho
    obtain ⟨os', r'⟩ := set_all r2 ma2 m.nd (fun a ha => (m.fr a ha).2) e
    exact h1 os' _ _ r'
end
/-! ### sources of walks -/
def strD (z : Str) : List D := z.cps.toList.map fun c => D.str ⟨#[c]⟩
def iSeqD : D → Option (List D)
  | .lst ds => some ds
  | .tup ds => some ds
  | .scr ns => some (ns.map D.int)
  | .str z => some (strD z)
  | _ => none
def iSeq (f : XD) : XL := fun ρ μ => (f ρ μ).bind fun d μ' => Res.ofO (iSeqD d) μ'
def rangeD (lo : Int) (n : Nat) : List D := (List.range n).map fun i => D.int (lo + (i : Nat))
def rangeC (lo c : Int) (n : Nat) : List D := (List.range n).map fun i => D.int (lo + (i : Nat) * c)
def rgOk (i : Int) : Bool := Nat.blt i.natAbs 4611686018427387904
def iRg1 (fs : XL) : XL := fun ρ μ => (fs ρ μ).bind fun ds μ' => match ds with
  | [.int j] => if rgOk j then .ok (rangeD 0 j.toNat) μ' else .fail
  | _ => .fail
def iRg2 (fs : XL) : XL := fun ρ μ => (fs ρ μ).bind fun ds μ' => match ds with
  | [.int i, .int j] => if rgOk i && rgOk j then .ok (rangeD i (j - i).toNat) μ' else .fail
  | _ => .fail
/-- downwards by one -/
def iRg3 (fs : XL) : XL := fun ρ μ => (fs ρ μ).bind fun ds μ' => match ds with
  | [.int i, .int j, .int c] => if rgOk i && rgOk j && decide (c = -1) then .ok (rangeC i (-1) (i - j).toNat) μ' else .fail
  | _ => .fail
def pairD (x y : D) : D := .tup [x, y]
def wZip (fs : XL) : XL := fun ρ μ => (fs ρ μ).bind fun ds μ' => match ds with
  | [.lst xs, .lst ys] => .ok (List.zipWith pairD xs ys) μ'
  | _ => .fail
def enumD (xs : List D) : List D := xs.mapIdx fun i x => .tup [.int (i : Nat), x]
def wEnum (fs : XL) : XL := fun ρ μ => (fs ρ μ).bind fun ds μ' => match ds with
  | [.lst xs] => .ok (enumD xs) μ'
  | _ => .fail
section
variable {K : PySem.W.Frag} {T : List Addr} {G H : Hp}
theorem yd_at {xs : List V} {ds : List D} (p : RpA K T G xs ds) : ∀ i H x H', YAt xs i H x H' → YD K T G ds i H x H' := fun i H x H' ⟨e, h⟩ => by
  obtain ⟨d, h1, h2⟩ := p.getV h
  exact ⟨d, h1, .inl ⟨e, h2⟩⟩
theorem rangeD_get {lo : Int} {n i : Nat} (h : i < n) : (rangeD lo n)[i]? = some (.int (lo + (i : Nat))) := by
  unfold rangeD
  rw [List.getElem?_map, List.getElem?_range h]
  rfl
theorem rangeC_get {lo c : Int} {n i : Nat} (h : i < n) : (rangeC lo c n)[i]? = some (.int (lo + (i : Nat) * c)) := by
  unfold rangeC
  rw [List.getElem?_map, List.getElem?_range h]
  rfl
theorem rangeD_len (lo : Int) (n : Nat) : (rangeD lo n).length = n := by unfold rangeD; rw [List.length_map, List.length_range]
theorem rangeC_len (lo c : Int) (n : Nat) : (rangeC lo c n).length = n := by unfold rangeC; rw [List.length_map, List.length_range]
theorem rgOk_of {i : Int} (h : rgOk i = true) : -(2 ^ 62) ≤ i ∧ i < 2 ^ 62 := by
  have z : i.natAbs < 4611686018427387904 := Nat.le_of_ble_eq_true h
  omega
end
section
variable {X : Cx} {cl : Nat → Addr} {W : WX} {tg e e2 : Expr} {f : XD} {fs : XL} {p pos tpos : Pos} {elts : List Expr} {kk : Nat}
theorem jSeq (h : PE X e (tE X.K cl W f)) : PI X tg e (tI X.K cl W (iSeq f)) := pi_imp (pi_or (pi_list h) (pi_or (pi_tup h) (pi_str h))) fun σ H R => by
  rintro ⟨c, os, ρ, μ, r, h⟩
  have h' := Out.bind h
  cases ef : f ρ μ with
  | fail => rw [ef] at h'; exact h'.elim
  | exc x μ1 => exact .inl ⟨c, os, ρ, μ, r, by rw [ef] at h' ⊢; exact h'⟩
  | ok d μ1 =>
    rw [ef] at h'
    obtain ⟨ds, e1, h2⟩ := Out.ofO h'
    cases d with
    | lst es =>
      cases e1
      refine .inl ⟨c, os, ρ, μ, r, ?_⟩
      rw [ef]
      intro v H1 r1 k p
      obtain ⟨a, xs, rfl, g1, g2⟩ := p.inv_lst
      refine ⟨a, rfl, ⟨xs, .inl (.inl (vw_le _ _ g1))⟩, h2 _ H1 r1 k ⟨fun H => SqL X.K H a xs, fun H2 e => .inl (.inl (e _ _ g1)), ?_⟩⟩
      rw [← g2.length]
      exact walk_list.mono (fun _ h => h) fun i H x H' _ _ y => yd_at g2 i H x H' y
    | tup es =>
      cases e1
      refine .inr (.inl ⟨c, os, ρ, μ, r, ?_⟩)
      rw [ef]
      intro v H1 r1 k p
      obtain ⟨a, xs, rfl, g1, g2⟩ := p.inv_tup
      refine ⟨a, rfl, ⟨xs, vw_le.sqT g1⟩, h2 _ H1 r1 k ⟨fun H => SqT X.K H a xs, fun H2 e => e.sqT g1, ?_⟩⟩
      rw [← g2.length]
      exact walk_tup.mono (fun _ h => h) fun i H x H' _ _ y => yd_at g2 i H x H' y
    | scr ns =>
      cases e1
      refine .inl ⟨c, os, ρ, μ, r, ?_⟩
      rw [ef]
      intro v H1 r1 k p
      obtain ⟨a, rfl, g1⟩ := p.inv_scr
      refine ⟨a, rfl, ⟨_, vw_le.sqL g1⟩, h2 _ H1 r1 k ⟨fun H => SqL X.K H a (ns.map V.int), fun H2 e => e.sqL g1, ?_⟩⟩
      rw [show (ns.map D.int).length = (ns.map V.int).length by rw [List.length_map, List.length_map]]
      exact walk_list.mono (fun _ h => h) fun i H x H' _ _ y => yd_at (RpA.of_ints ns) i H x H' y
    | str z =>
      cases e1
      refine .inr (.inr ⟨c, os, ρ, μ, r, ?_⟩)
      rw [ef]
      intro v H1 r1 k p
      obtain ⟨e1, e2⟩ := p.inv_str
      subst e1
      refine ⟨z, rfl, h2 _ H1 r1 k ⟨fun _ => True, fun _ _ => trivial, ?_⟩⟩
      rw [show (strD z).length = z.cps.size by unfold strD; rw [List.length_map, Array.length_toList]]
      refine walk_str.mono (fun _ h => h) fun i H x H' _ _ y => ?_
      obtain ⟨y1, ch, y2, y3⟩ := y
      refine ⟨.str ⟨#[ch]⟩, ?_, .inl ⟨y1, ?_⟩⟩
      · unfold strD
        rw [List.getElem?_map, Array.getElem?_toList, y2]
        rfl
      · rw [y3]
        refine .str ?_
        rw [strOk_iff] at e2
        have := List.all_eq_true.mp e2 ch (by
          have : z.cps.toList[i]? = some ch := by rw [Array.getElem?_toList, y2]
          exact List.mem_of_getElem? this)
        unfold strOk
        simpa using this
    | _ => cases e1
theorem jRg1 {a : Expr} (hg : Gl X "range") (hm : X.mg "range" = none) (ha : PA X [a] (tL X.K cl W fs)) (hs : starEach [a] X.env = [(false, eval a X.env)] := by rfl) : PI X tg (.Call (.Name "range" p) [a] [] pos) (tI X.K cl W (iRg1 fs)) := pi_imp (pi_range1 hg hm ha hs) fun σ H R => by
  rintro ⟨c, os, ρ, μ, r, h⟩
  refine ⟨c, os, ρ, μ, r, (Out.bind h).imp (fun ds μ1 h1 => ?_) fun _ _ q => q⟩
  intro vs H1 r1 k pv
  split at h1
  · rename_i j
    by_cases hj : rgOk j = true
    · rw [if_pos hj] at h1
      obtain ⟨v, z, pw⟩ := pv.one
      subst z
      refine ⟨j, by rw [pw.inv_int], (rgOk_of hj).1, (rgOk_of hj).2, h1 _ H1 r1 k ⟨fun _ => True, fun _ _ => trivial, ?_⟩⟩
      rw [rangeD_len]
      exact walk_range.mono (fun _ h => h) fun i H x H' hi _ y => ⟨_, rangeD_get hi, .inl ⟨y.1, by rw [y.2]; exact .int _⟩⟩
    · rw [if_neg hj] at h1
      exact h1.elim
  · exact h1.elim
theorem jRg2 {a b : Expr} (hg : Gl X "range") (hm : X.mg "range" = none) (ha : PA X [a, b] (tL X.K cl W fs)) (hs : starEach [a, b] X.env = [(false, eval a X.env), (false, eval b X.env)] := by rfl) (hs2 : starEach [b] X.env = [(false, eval b X.env)] := by rfl) : PI X tg (.Call (.Name "range" p) [a, b] [] pos) (tI X.K cl W (iRg2 fs)) := pi_imp (pi_range2 hg hm ha hs hs2) fun σ H R => by
  rintro ⟨c, os, ρ, μ, r, h⟩
  refine ⟨c, os, ρ, μ, r, (Out.bind h).imp (fun ds μ1 h1 => ?_) fun _ _ q => q⟩
  intro vs H1 r1 k pv
  split at h1
  · rename_i i j
    by_cases hj : (rgOk i && rgOk j) = true
    · rw [if_pos hj] at h1
      rw [Bool.and_eq_true] at hj
      obtain ⟨v, w, z, pu, pw⟩ := pv.two
      subst z
      refine ⟨i, j, by rw [pu.inv_int, pw.inv_int], ⟨(rgOk_of hj.1).1, (rgOk_of hj.1).2, (rgOk_of hj.2).1, (rgOk_of hj.2).2⟩, h1 _ H1 r1 k ⟨fun _ => True, fun _ _ => trivial, ?_⟩⟩
      rw [rangeD_len]
      exact walk_range.mono (fun _ h => h) fun i H x H' hi _ y => ⟨_, rangeD_get hi, .inl ⟨y.1, by rw [y.2]; exact .int _⟩⟩
    · rw [if_neg hj] at h1
      exact h1.elim
  · exact h1.elim
theorem pair_get {xs ys : List V} {dx dy : List D} {K : PySem.W.Frag} {T : List Addr} {G : Hp} (px : RpA K T G xs dx) (py : RpA K T G ys dy) : ∀ i H x H', YPair (fun i => xs[i]?) (fun i => ys[i]?) i H x H' → YD K T G (List.zipWith pairD dx dy) i H x H' := fun i H v H' => by
  rintro ⟨q, x, y, h1, h2, h3, h4, h5⟩
  obtain ⟨d, e1, e2⟩ := px.getV h4
  obtain ⟨d', f1, f2⟩ := py.getV h5
  refine ⟨.tup [d, d'], ?_, .inr ⟨q, x, y, d, d', h1, h2, h3, rfl, e2, f2⟩⟩
  rw [List.getElem?_zipWith, e1, f1]
  rfl
theorem jZip (h : PI X tg e (iZip X.K (tL X.K cl W fs))) : PI X tg e (tI X.K cl W (wZip fs)) := pi_imp h fun σ H R => by
  rintro ⟨c, os, ρ, μ, r, h⟩
  refine ⟨c, os, ρ, μ, r, (Out.bind h).imp (fun ds μ1 h1 => ?_) fun _ _ q => q⟩
  intro vs H1 r1 k pv
  split at h1
  · rename_i xs ys
    obtain ⟨v, w, z, pu, pw⟩ := pv.two
    subst z
    obtain ⟨a, us, rfl, g1, g2⟩ := pu.inv_lst
    obtain ⟨b, ws, rfl, g3, g4⟩ := pw.inv_lst
    refine ⟨a, b, us, ws, rfl, .inl (.inl (vw_le _ _ g1)), .inl (.inl (vw_le _ _ g3)), h1 _ H1 r1 k ⟨fun H => SqL X.K H a us ∧ SqL X.K H b ws, fun H2 e => ⟨.inl (.inl (e _ _ g1)), .inl (.inl (e _ _ g3))⟩, ?_⟩⟩
    exact (walk_zip (by rw [List.length_zipWith, g2.length, g4.length])).mono (fun _ h => h) fun i H x H' _ _ y => pair_get g2 g4 i H x H' y
  · exact h1.elim
theorem jEnum (h : PI X tg e (iEnum X.K (tL X.K cl W fs))) : PI X tg e (tI X.K cl W (wEnum fs)) := pi_imp h fun σ H R => by
  rintro ⟨c, os, ρ, μ, r, h⟩
  refine ⟨c, os, ρ, μ, r, (Out.bind h).imp (fun ds μ1 h1 => ?_) fun _ _ q => q⟩
  intro vs H1 r1 k pv
  split at h1
  · rename_i xs
    obtain ⟨v, z, pu⟩ := pv.one
    subst z
    obtain ⟨a, us, rfl, g1, g2⟩ := pu.inv_lst
    refine ⟨a, us, rfl, .inl (.inl (vw_le _ _ g1)), h1 _ H1 r1 k ⟨fun H => SqL X.K H a us, fun H2 e => .inl (.inl (e _ _ g1)), ?_⟩⟩
    rw [show (enumD xs).length = us.length by unfold enumD; rw [List.length_mapIdx, g2.length]]
    refine walk_enum.mono (fun _ h => h) fun i H x H' _ _ y => ?_
    obtain ⟨q, x, y, h1, h2, h3, h4, h5⟩ := y
    obtain ⟨d, e1, e2⟩ := g2.getV h5
    cases h4
    refine ⟨.tup [.int (i : Nat), d], ?_, .inr ⟨q, _, y, _, d, h1, h2, h3, rfl, .int _, e2⟩⟩
    unfold enumD
    rw [List.getElem?_mapIdx, e1]
    rfl
  · exact h1.elim
end
end DC
set_option Elab.async false
set_option linter.all false
set_option maxRecDepth 100000
set_option maxHeartbeats 2000000
/-! DC: stores by index, cells made, defs. -/
namespace DC
open PySem PySem.Spec PyProof.Rows L2
/-! ### x[i] = e: a cell, an own list -/
def sSetI (i : Nat) (fi fe : XD) : SD := fun ρ μ => (fe ρ μ).st ρ fun d μ1 => match ρ[i]? with
  | some (.fz (.own n)) => (fi ρ μ1).st ρ fun k μ2 => match d, k, μ2[n]? with
    | .int z, .int j, some ns => (match ixN ns.length j with
      | some p => .nx ρ (μ2.set n (ns.set p z))
      | none => .fail)
    | _, _, _ => .fail
  | some (.ow (.lst ds)) => (fi ρ μ1).st ρ fun k μ2 => match k with
    | .int j => (match ixN ds.length j with
      | some p => .nx (ρ.set i (.ow (.lst (ds.set p d)))) μ2
      | none => .fail)
    | _ => .fail
  | _ => .fail
theorem ints_set {ns : List Int} {p : Nat} {z : Int} : (ns.map V.int).set p (.int z) = (ns.set p z).map V.int := by
  rw [List.map_set]
section
variable {X : Cx} {cl : Nat → Addr} {W : WX} {fr : Bool} {fi fe : XD} {s0 : Stmt} {rest : List Stmt} {i : Nat} {F : SD}
theorem hSetI (h : PS X s0 (tAsg (tE X.K cl W fe) (gSub (tVar i) (tE X.K cl W fi) rSetL))) : PS X s0 (tS X.K cl W fr (sSetI i fi fe)) := ps_imp h fun E σ H => by
  rintro ⟨c, os, ρ, μ, r, h⟩
  refine ⟨c, os, ρ, μ, r, (SOut.st h).imp (fun d μ1 h1 => ?_) fun _ _ q => q⟩
  intro v1 H1 r1 e1 p1
  split at h1
  · rename_i n e0
    obtain ⟨v, g1, g2, g3⟩ := r1.get e0
    obtain ⟨a, g4, g5⟩ := g2.inv_own
    subst g4
    refine ⟨_, g1, c, os, ρ, μ1, r1, (SOut.st h1).imp (fun k μ2 h2 => ?_) fun _ _ q => q⟩
    intro v2 H2 r2 e2 p2
    split at h2
    · rename_i z j ns e3
      split at h2
      · rename_i p e4
        obtain ⟨q1, q2⟩ := r2.setCell (ns := ns.set p z) g5
        refine ⟨a, ns.map V.int, j, p, rfl, p2.inv_int, r2.st n a ns g5 e3, by rw [List.length_map]; exact e4, ?_⟩
        rw [p1.inv_int, ints_set]
        exact h2 os σ _ q1
      · exact h2.elim
    · exact h2.elim
  · rename_i ds e0
    obtain ⟨a, g1, g2, g3⟩ := r1.getOw e0
    refine ⟨_, g1, c, os, ρ, μ1, r1, (SOut.st h1).imp (fun k μ2 h2 => ?_) fun _ _ q => q⟩
    intro v2 H2 r2 e2 p2
    split at h2
    · rename_i j
      split at h2
      · rename_i p e4
        obtain ⟨a', k1, k2, k3⟩ := r2.getOw e0
        have ea : a' = a := by
          rw [g1] at k1
          have := Option.some.inj (Option.some.inj k1)
          cases this; rfl
        subst ea
        cases k3 with
        | lst q k =>
          rename_i ys
          refine ⟨a', ys, j, p, rfl, p2.inv_int, q, by rw [k.length]; exact e4, ?_⟩
          exact h2 os σ _ (r2.change k1 k2 (.lst upd_same (RpA.set (p1.mono e2.vw) p k)))
      · exact h2.elim
    · exact h2.elim
  · exact h1.elim
mutual
theorem Rp.moreT {K : PySem.W.Frag} {T T' : List Addr} {H : Hp} (e : ∀ (n : Nat) (b : Addr), T[n]? = some b → T'[n]? = some b) : ∀ {d : D} {v : V}, Rp K T H v d → Rp K T' H v d
  | .non, _, h => by cases h; exact .non
  | .bl _, _, h => by cases h; exact .bl _
  | .int _, _, h => by cases h; exact .int _
  | .str _, _, h => by cases h with | str q => exact .str q
  | .tup ds, _, h => by cases h with | tup q r => exact .tup q (RpA.moreT e r)
  | .lst ds, _, h => by cases h with | lst q r => exact .lst q (RpA.moreT e r)
  | .scr ns, _, h => by cases h with | scr q => exact .scr q
  | .dk ks ds, _, h => by cases h with | dk q z r => exact .dk q z (RpA.moreT e r)
  | .dt ks ds, _, h => by cases h with | dt q z r => exact .dt q z (RpA.moreT e r)
  | .own n, _, h => by cases h with | own q => exact .own (e _ _ q)
theorem RpA.moreT {K : PySem.W.Frag} {T T' : List Addr} {H : Hp} (e : ∀ (n : Nat) (b : Addr), T[n]? = some b → T'[n]? = some b) : ∀ {ds : List D} {vs : List V}, RpA K T H vs ds → RpA K T' H vs ds
  | [], _, h => by cases h; exact .nil
  | d :: ds, _, h => by cases h with | cons q r => exact .cons (Rp.moreT e q) (RpA.moreT e r)
end
theorem OwAt.moreT {K : PySem.W.Frag} {T T' : List Addr} {Hv H : Hp} {a : Addr} {d : D} (e : ∀ (n : Nat) (b : Addr), T[n]? = some b → T'[n]? = some b) : OwAt K T Hv H a d → OwAt K T' Hv H a d
  | .lst h r => .lst h (r.moreT e)
  | .dk h z r => .dk h z (r.moreT e)
  | .dt h z r => .dt h z (r.moreT e)
/-- from here on the own list of ints at slot i is a cell -/
def sProm (i : Nat) (F : SD) : SD := fun ρ μ => match ρ[i]? with
  | some (.ow (.lst ds)) => (match D.ints ds with
    | some ns => (match F (ρ.set i (.fz (.own μ.length))) (μ ++ [ns]) with
      | .rt (.bl b) μ' => .rt (.bl b) (μ'.take μ.length)
      | _ => .fail)
    | none => .fail)
  | _ => .fail
theorem hProm (h : PSs X rest (tS X.K cl W false F)) : PSs X rest (tS X.K cl W false (sProm i F)) := pss_imp h fun E σ H => by
  rintro ⟨c, os, ρ, μ, r, h⟩
  unfold sProm at h
  split at h
  · rename_i ds e0
    split at h
    · rename_i ns e1
      have z := D.ints_eq e1
      subst z
      obtain ⟨a, g1, g2, g3⟩ := r.getOw e0
      have hm : some a ∈ os := List.mem_of_getElem? g2
      obtain ⟨w1, w2, w3⟩ := r.own a hm
      have hH : H a = some (.lst (ns.map V.int)) := by
        cases g3 with
        | lst q k => rw [k.ints] at q; exact q
      have l1 : i < os.length := (List.getElem?_eq_some_iff.mp g2).1
      have lρ : i < ρ.length := by rw [r.lr, ← r.lo]; exact l1
      have ev : vw { c with T := c.T ++ [a] } (os.set i none) H = vw c os H := by
        funext b
        unfold vw
        by_cases hb : (c.A b ∨ b ∈ c.T ∨ some b ∈ os)
        · rw [if_pos hb, if_pos]
          rcases hb with z | z | z
          · exact .inl z
          · exact .inr (.inl (List.mem_append_left _ z))
          · by_cases eb : b = a
            · exact .inr (.inl (List.mem_append_right _ (by simp [eb])))
            · refine .inr (.inr ?_)
              obtain ⟨j, hj⟩ := List.getElem?_of_mem z
              have nj : i ≠ j := fun e => by
                subst e
                rw [g2] at hj
                exact eb (Option.some.inj (Option.some.inj hj)).symm
              exact List.mem_of_getElem? (i := j) (by rw [List.getElem?_set_ne nj]; exact hj)
        · rw [if_neg hb, if_neg]
          rintro (z | z | z)
          · exact hb (.inl z)
          · rcases List.mem_append.mp z with z | z
            · exact hb (.inr (.inl z))
            · have : b = a := by simpa using z
              exact hb (.inr (.inr (by rw [this]; exact hm)))
          · exact hb (.inr (.inr (mem_set_none z)))
      have r' : Rl X.K { c with T := c.T ++ [a] } (os.set i none) (ρ.set i (.fz (.own μ.length))) (μ ++ [ns]) σ H := by
        refine ⟨by simp [r.lo], by simp [r.lr], fun j o s x q1 q2 q3 => ?_, fun j k b q1 q2 => ?_, fun b q => ?_, fun b q z => ?_, ?_, by simp [r.sm], fun n b ms q1 q2 => ?_, fun b o q1 q2 => r.keep b o q1 fun z => q2 (List.mem_append_left _ z), r.dom⟩
        · have mT : ∀ (n : Nat) (b : Addr), c.T[n]? = some b → (c.T ++ [a])[n]? = some b := fun n b q => by
            rw [List.getElem?_append_left (List.getElem?_eq_some_iff.mp q).1]; exact q
          rw [ev]
          by_cases hj : i = j
          · subst hj
            rw [List.getElem?_set_self l1] at q1
            rw [List.getElem?_set_self lρ] at q2
            rw [g1] at q3
            cases q1; cases q2; cases q3
            refine .own ?_
            rw [r.sm, List.getElem?_append_right (Nat.le_refl _), Nat.sub_self]
            rfl
          · rw [List.getElem?_set_ne hj] at q1 q2
            have q := r.sl j o s x q1 q2 q3
            unfold SlAt at q ⊢
            split at q
            · trivial
            · exact q.moreT mT
            · exact ⟨q.1, q.2.moreT mT⟩
            · exact q.elim
        · have g : ∀ m, (os.set i none)[m]? = some (some b) → os[m]? = some (some b) := fun m hm => by
            by_cases e : i = m
            · subst e
              rw [List.getElem?_set_self l1] at hm; cases hm
            · rw [List.getElem?_set_ne e] at hm; exact hm
          exact r.inj j k b (g j q1) (g k q2)
        · have w := r.own b (mem_set_none q)
          refine ⟨fun z => ?_, w.2⟩
          rcases List.mem_append.mp z with z | z
          · exact w.1 z
          · have eb : b = a := by simpa using z
            subst eb
            obtain ⟨j, hj⟩ := List.getElem?_of_mem q
            by_cases e : i = j
            · subst e
              rw [List.getElem?_set_self l1] at hj; cases hj
            · rw [List.getElem?_set_ne e] at hj
              exact e (r.inj i j b g2 hj)
        · rcases List.mem_append.mp q with y | y
          · exact r.tA b y z
          · have eb : b = a := by simpa using y
            subst eb; exact w2 z
        · exact List.nodup_append.mpr ⟨r.tn, by simp, fun x hx y hy e => by
            have : y = a := by simpa using hy
            subst this; subst e; exact w1 hx⟩
        · by_cases hn : n < c.T.length
          · rw [List.getElem?_append_left hn] at q1
            rw [List.getElem?_append_left (by rw [r.sm]; exact hn)] at q2
            exact r.st n b ms q1 q2
          · have hl : n < (c.T ++ [a]).length := (List.getElem?_eq_some_iff.mp q1).1
            have en : n = c.T.length := by simp at hl; omega
            subst en
            rw [List.getElem?_append_right (Nat.le_refl _), Nat.sub_self] at q1
            rw [List.getElem?_append_right (by rw [r.sm]; exact Nat.le_refl _), r.sm, Nat.sub_self] at q2
            cases q1; cases q2
            exact hH
      refine ⟨{ c with T := c.T ++ [a] }, _, _, _, r', ?_⟩
      have h' : SOut X.K cl W false c E (match F (ρ.set i (.fz (.own μ.length))) (μ ++ [ns]) with
        | .rt (.bl b) μ' => .rt (.bl b) (μ'.take μ.length)
        | _ => .fail) := h
      split at h'
      · rename_i b μ' eF
        rw [eF]
        intro v os2 ρ2 σ2 H2 r2 p2
        have z := p2.inv_bl
        subst z
        have r3 : Rl X.K c [] [] (μ'.take μ.length) [] H2 := by
          refine ⟨rfl, rfl, fun j o s x q => (by simp at q), fun j k b q => (by simp at q), fun b q => (by cases q), fun b q => r2.tA b (List.mem_append_left _ q), r.tn, ?_, fun n b ms q1 q2 => ?_, fun b o q1 q2 => r2.keep b o q1 fun z => ?_, r2.dom⟩
          · have := r2.sm
            simp at this
            rw [List.length_take, r.sm]
            omega
          · refine r2.st n b ms (by rw [List.getElem?_append_left (List.getElem?_eq_some_iff.mp q1).1]; exact q1) ?_
            rw [List.getElem?_take] at q2
            split at q2
            · exact q2
            · cases q2
          · rcases List.mem_append.mp z with z | z
            · exact q2 z
            · have eb : b = a := by simpa using z
              subst eb
              rw [w3] at q1; cases q1
        exact h' (.bl b) [] [] [] H2 r3 (.bl b)
      · exact h'.elim
    · exact h.elim
  · exact h.elim
end
/-! ### a def, by its body -/
def entry (n : Nat) (ds : List D) : Env := ds.map Sl.fz ++ List.replicate (n - ds.length) Sl.no
def bodyD (F : SD) (n : Nat) (ds : List D) (μ : Store) : Res D := match F (entry n ds) μ with
  | .rt d μ' => .ok d μ'
  | .nx _ μ' => .ok .non μ'
  | .exc x _ μ' => .exc x μ'
  | _ => .fail
def bodyF (F : SD) (n : Nat) (ds : List D) (μ : Store) : Res D := match F (entry n ds) μ with
  | .rt d μ' => .ok d μ'
  | .exc x _ μ' => .exc x μ'
  | _ => .fail
section
variable {K : PySem.W.Frag} {cl : Nat → Addr} {A : Addr → Prop} {T : List Addr} {μ : Store} {H : Hp}
theorem Rl.entry {N : List Str} {vs : List V} {ds : List D} (r : Rl K ⟨A, T, H⟩ [] [] μ [] H) (p : RpA K T (vw ⟨A, T, H⟩ [] H) vs ds) (hl : ds.length ≤ N.length) : Rl K ⟨A, T, H⟩ (List.replicate N.length none) (DC.entry N.length ds) μ (start N vs) H := by
  have hvl := p.length
  have no : ∀ i a, (List.replicate N.length (none : Option Addr))[i]? ≠ some (some a) := fun i a h => by
    rw [List.getElem?_replicate] at h
    split at h
    · cases h
    · cases h
  have nm : ∀ a, some a ∉ List.replicate N.length (none : Option Addr) := fun a h => by
    obtain ⟨_, z⟩ := List.mem_replicate.mp h
    cases z
  have ev : vw ⟨A, T, H⟩ (List.replicate N.length none) H = vw ⟨A, T, H⟩ [] H := by
    funext b
    unfold vw
    by_cases hb : (A b ∨ b ∈ T ∨ some b ∈ ([] : List (Option Addr)))
    · rw [if_pos hb, if_pos]
      rcases hb with z | z | z
      · exact .inl z
      · exact .inr (.inl z)
      · cases z
    · rw [if_neg hb, if_neg]
      rintro (z | z | z)
      · exact hb (.inl z)
      · exact hb (.inr (.inl z))
      · exact nm _ z
  refine ⟨?_, ?_, fun i o s x h1 h2 h3 => ?_, fun i j a h => absurd h (no i a), fun a h => absurd h (nm a), r.tA, r.tn, r.sm, r.st, r.keep, r.dom⟩
  · unfold L2.start
    simp
    omega
  · unfold L2.start DC.entry
    simp
    omega
  · rw [ev]
    have eo : o = none := by
      rw [List.getElem?_replicate] at h1
      split at h1
      · exact (Option.some.inj h1).symm
      · cases h1
    subst eo
    unfold L2.start at h3
    unfold DC.entry at h2
    by_cases hi : i < ds.length
    · rw [List.getElem?_append_left (by simpa using hi), List.getElem?_map] at h2
      rw [List.getElem?_append_left (by simp; omega), List.getElem?_map] at h3
      obtain ⟨d, e1, e2⟩ := Option.map_eq_some_iff.mp h2
      obtain ⟨v, e3, e4⟩ := Option.map_eq_some_iff.mp h3
      obtain ⟨v', g1, g2⟩ := p.get e1
      rw [e3] at g1
      cases g1
      subst e2 e4
      exact g2
    · rw [List.getElem?_append_right (by simp; omega), List.getElem?_replicate] at h2
      split at h2
      · cases h2; trivial
      · cases h2
theorem Rl.bare {c : Ct} {os : List (Option Addr)} {ρ : Env} {σ : L2.St} (r : Rl K c os ρ μ σ H) : Rl K c [] [] μ [] H :=
  ⟨rfl, rfl, fun j o s x q => (by simp at q), fun j k b q => (by simp at q), fun b q => (by cases q), r.tA, r.tn, r.sm, r.st, r.keep, r.dom⟩
theorem Fr.bare {c : Ct} {os : List (Option Addr)} {ρ : Env} {σ : L2.St} {a : Addr} {d : D} (f : Fr K c os ρ μ σ H a d) : Fr K c [] [] μ [] H a d :=
  ⟨f.rl.bare, f.ow.mono (vw_os fun a h => by cases h) fun _ h => h, f.nA, f.nT, by simp, f.he⟩
theorem ExAt.bare {c : Ct} {os : List (Option Addr)} {x : Exn} {e : Value} {dx : Option Addr} (h : ExAt K cl c os x e dx H) : ExAt K cl c [] x e dx H := by
  unfold ExAt at h ⊢
  refine ⟨h.1, ?_⟩
  have q := h.2
  split at q
  · rename_i e0
    exact q
  · rename_i e0
    obtain ⟨a, v, g1, g2, g3⟩ := q
    exact ⟨a, v, g1, g2, g3.mono (vw_os fun a h => by cases h)⟩
end
section
variable {P : Program} {w : World} {K : PySem.W.Frag} {mg : Str → Option Value} {base : Heap} {cl : Nat → Addr}
abbrev WE0 (E : XK) : WX := fun cls d _ H => E cls d H
theorem okD {x qual : Str} {st : Stmt} {f : Addr} {fd : FuncData} {N ps : List Str} {k : Nat} {FB : SD} (F : Fun K x qual st f fd) (S : FnScope N ps (defScope st)) (hn : ps.length ≤ N.length)
    (hb : ∀ (cdv : Value) (A : Around) (outer : List PySem.Env) (s : Shared) (H : Hp) (E : XK), Room k (A.deeper (envOfC qual (defScope st) s.heap.objs.size f cdv)) →
      PSs (cxOf (L2.CX P w) P w K mg base N qual (defScope st) f cdv A outer s H E) (defBody st) (tS K cl (WE0 E) false FB)) : FnOk P w K mg base (L2.CX P w) (k + 1) f fd ps (SpD K cl ps.length (bodyD FB N.length)) := by
  refine F.okX S (fun vs H Q E h => ?_) (fun cdv A outer s H vs Q E hr h => ⟨_, hb cdv A outer s H E hr, ?_⟩)
  · obtain ⟨A, T, μ, ds, r, p, hl, _⟩ := h
    rw [p.length, hl]
  · obtain ⟨A, T, μ, ds, r, p, hl, h⟩ := h
    refine ⟨⟨A, T, H⟩, _, _, μ, r.entry p (by rw [hl]; exact hn), ?_⟩
    unfold bodyD at h
    cases e : FB (entry N.length ds) μ with
    | rt d μ' =>
      rw [e] at h
      exact fun v os ρ σ H' r' p' => h v H' r'.bare (p'.mono (vw_os fun a h => by cases h))
    | nx ρ μ' =>
      rw [e] at h
      exact fun os σ H' r' => h .non H' r'.bare .non
    | exc x ρ μ' =>
      rw [e] at h
      exact fun v dx os σ H' r' p' => h v dx H' r'.bare p'.bare
    | bk ρ μ' => rw [e] at h; exact h.elim
    | ct ρ μ' => rw [e] at h; exact h.elim
    | fail => rw [e] at h; exact h.elim
theorem okF {x qual : Str} {st : Stmt} {f : Addr} {fd : FuncData} {N ps : List Str} {k : Nat} {FB : SD} (F : Fun K x qual st f fd) (S : FnScope N ps (defScope st)) (hn : ps.length ≤ N.length)
    (hb : ∀ (cdv : Value) (A : Around) (outer : List PySem.Env) (s : Shared) (H : Hp) (E : XK), Room k (A.deeper (envOfC qual (defScope st) s.heap.objs.size f cdv)) →
      PSs (cxOf (L2.CX P w) P w K mg base N qual (defScope st) f cdv A outer s H E) (defBody st) (tS K cl (WE0 E) true (sSeq FB sFail))) : FnOk P w K mg base (L2.CX P w) (k + 1) f fd ps (SpF K cl ps.length (bodyF FB N.length)) := by
  refine F.okX S (fun vs H Q E h => ?_) (fun cdv A outer s H vs Q E hr h => ⟨_, hb cdv A outer s H E hr, ?_⟩)
  · obtain ⟨A, T, μ, ds, r, p, hl, _⟩ := h
    rw [p.length, hl]
  · obtain ⟨A, T, μ, ds, r, p, hl, h⟩ := h
    refine ⟨⟨A, T, H⟩, _, _, μ, r.entry p (by rw [hl]; exact hn), ?_⟩
    unfold bodyF at h
    unfold sSeq
    cases e : FB (entry N.length ds) μ with
    | rt d μ' =>
      rw [e] at h
      exact fun a os ρ σ H' f => h a H' f.bare
    | nx ρ μ' =>
      rw [e] at h
      exact h.elim
    | exc x ρ μ' =>
      rw [e] at h
      exact fun v dx os σ H' r' p' => h v dx H' r'.bare p'.bare
    | bk ρ μ' => rw [e] at h; exact h.elim
    | ct ρ μ' => rw [e] at h; exact h.elim
    | fail => rw [e] at h; exact h.elim
end
end DC
set_option Elab.async false
set_option linter.all false
set_option maxRecDepth 100000
set_option maxHeartbeats 4000000
/-! DC: rules the hand layer lacks: t * k at the ends, t[::-1], enumerate of tuples and texts. -/
namespace DC
open PySem PySem.Spec PyProof.Rows L2
/-! ### t * k, k ≤ 1 or t empty -/
theorem tuple_mulS (l : Addr) (items : Array Value) (n : Nat) (x : Int) (u : Tok) (c0 : (decide (x < -(2 ^ 63)) || decide (x ≥ 2 ^ 63)) = false) (c1 : (items.isEmpty || x == 1) = true) :
    Meets (Builtin.«tuple.__mul__» ⟨[.ref l, .int x u], []⟩) (fun _ R s => (∃ dd sl, s.heap.get? l = some { cls := .type "tuple", dict := dd, data := .seq items n, slots := sl }) ∧ R (.ok (.ret (Value.ref l))) s) :=
  .of_wp fun prog w A R s h => by
    obtain ⟨hp, g, d, tk, os⟩ := s
    obtain ⟨⟨dd, sl, hl⟩, h⟩ := h
    have f1 := AutoSeq1.idx_int
    wp_walk using wpAny_loadPart' hl
    repeat (first
      | (refine wpAny_ite_false (decide_eq_false (by rw [c0]; exact Bool.false_ne_true)) ?_; wp_walk using wpAny_loadPart' hl)
      | (refine wpAny_ite_true (decide_eq_true (by rw [c1])) ?_; wp_walk using wpAny_loadPart' hl))
    exact ⟨_, rfl, h⟩
theorem tuple_mul0 (l : Addr) (items : Array Value) (n : Nat) (x : Int) (u : Tok) (c0 : (decide (x < -(2 ^ 63)) || decide (x ≥ 2 ^ 63)) = false) (c1 : (items.isEmpty || x == 1) = false) (c2 : (decide (x ≤ 0) || items.isEmpty) = true) :
    Meets (Builtin.«tuple.__mul__» ⟨[.ref l, .int x u], []⟩) (fun _ R s => (∃ dd sl, s.heap.get? l = some { cls := .type "tuple", dict := dd, data := .seq items n, slots := sl }) ∧
      R (.ok (.ret (Value.ref s.heap.objs.size))) { s with heap := s.heap.push { cls := Value.type "tuple", data := Data.seq #[] }, toks := s.toks }) :=
  .of_wp fun prog w A R s h => by
    obtain ⟨hp, g, d, tk, os⟩ := s
    obtain ⟨⟨dd, sl, hl⟩, h⟩ := h
    have f1 := AutoSeq1.idx_int
    have hsz : (#[] : Array Value).size ≤ sizeLine := Nat.zero_le _
    wp_walk using wpAny_loadPart' hl
    repeat (first
      | (refine wpAny_ite_false (decide_eq_false (by rw [c0]; exact Bool.false_ne_true)) ?_; wp_walk using wpAny_loadPart' hl)
      | (refine wpAny_ite_false (decide_eq_false (by rw [c1]; exact Bool.false_ne_true)) ?_; wp_walk using wpAny_loadPart' hl)
      | (refine wpAny_ite_true (decide_eq_true (by rw [c2])) ?_; wp_walk using wpAny_loadPart' hl)
      | (refine wpAny_ite_false (decide_eq_false (Nat.not_lt.mpr hsz)) ?_; wp_walk using wpAny_loadPart' hl))
    exact ⟨_, rfl, h⟩
/-- t * k: new, or (k = 1, t empty) t itself -/
def rRepA (K : PySem.W.Frag) : R2 := fun x y H Q => ∃ l k xs, x = .ref l ∧ y = .int k ∧ SqT K H l xs ∧ -1000 ≤ k ∧ k ≤ 1000 ∧ xs.length ≤ 1000 ∧ ((xs = [] ∨ k = 1) → Q (.ref l) H) ∧ (¬ (xs = [] ∨ k = 1) → ∀ p, H p = none → Q (.ref p) (upd H p (.tup (List.replicate k.toNat xs).flatten)))
section
variable {X : Cx}
theorem op_repA : OpR X (binaryOp .Mult) (rRepA X.K) := by
  intro pins s σ H x y v u Q I rx ry h
  obtain ⟨l, k, xs, rfl, rfl, hT, h0, h1, hz, q1, q2⟩ := h
  by_cases hb : 2 ≤ k ∧ xs ≠ []
  · exact op_repT pins s σ H _ _ _ _ Q I rx ry ⟨l, k, xs, rfl, rfl, hT, hb.2, hb.1, h1, hz, q2 fun z => z.elim hb.2 fun z => by omega⟩
  cases rx
  obtain ⟨t, rfl⟩ := ry
  obtain ⟨its, r, ⟨⟨cls, dd, data, sl⟩, ho, hc, n, hd⟩, hs⟩ := I.tuple hT
  simp only at hc hd
  subst hc hd
  have hle : its.length = xs.length := r.length.symm
  have c0 : (decide (k < -(2 ^ 63)) || decide (k ≥ 2 ^ 63)) = false := by
    rw [decide_eq_false (by omega), decide_eq_false (by omega)] <;> rfl
  have hie : its.toArray.isEmpty = true ↔ xs = [] := by
    constructor
    · intro z
      have : its = [] := by simpa using z
      rw [this] at hle
      exact List.eq_nil_of_length_eq_zero hle.symm
    · intro z
      rw [z] at hle
      have : its = [] := List.eq_nil_of_length_eq_zero hle
      simp [this]
  by_cases hs1 : xs = [] ∨ k = 1
  · have c1 : (its.toArray.isEmpty || k == 1) = true := by
      rcases hs1 with z | z
      · rw [hie.mpr z]; rfl
      · rw [z]; simp
    refine wpAny_binaryOp_repeat_ref (T := "tuple") (U := "int") (by decide) ⟨_, ho, rfl⟩ (fun s' => typeIs_int s' k t) noFill_tuple_mul F.fills_int_mul F.slot_int_rmul repeat_tuple F.slot_int_index.lookup
      (call_meets F.slot_int_rmul (typeIs_int s k t) F.entry_int_rmul (F.args_int_rmul_2 _ _) (int_rmul_tuple k t l its.toArray n dd sl)
        ⟨ho, rfl, ⟨_, ho, rfl⟩, call_meets F.slot_tuple_mul ⟨_, ho, rfl⟩ F.entry_tuple_mul (F.args_tuple_mul_2 _ _) (tuple_mulS l its.toArray n k t c0 c1) ⟨⟨_, _, ho⟩, ?_⟩⟩)
    exact ⟨.ref l, H, I, rfl, q1 hs1⟩
  · have c1 : (its.toArray.isEmpty || k == 1) = false := by
      cases e : its.toArray.isEmpty with
      | true => exact absurd (.inl (hie.mp e)) hs1
      | false => exact beq_eq_false_iff_ne.mpr fun z => hs1 (.inr z)
    have hk : k ≤ 0 := by
      by_cases h2 : 2 ≤ k
      · exact absurd ⟨h2, fun z => hs1 (.inl z)⟩ hb
      · have : k ≠ 1 := fun z => hs1 (.inr z)
        omega
    have c2 : (decide (k ≤ 0) || its.toArray.isEmpty) = true := by rw [decide_eq_true hk]; rfl
    refine wpAny_binaryOp_repeat_ref (T := "tuple") (U := "int") (by decide) ⟨_, ho, rfl⟩ (fun s' => typeIs_int s' k t) noFill_tuple_mul F.fills_int_mul F.slot_int_rmul repeat_tuple F.slot_int_index.lookup
      (call_meets F.slot_int_rmul (typeIs_int s k t) F.entry_int_rmul (F.args_int_rmul_2 _ _) (int_rmul_tuple k t l its.toArray n dd sl)
        ⟨ho, rfl, ⟨_, ho, rfl⟩, call_meets F.slot_tuple_mul ⟨_, ho, rfl⟩ F.entry_tuple_mul (F.args_tuple_mul_2 _ _) (tuple_mul0 l its.toArray n k t c0 c1 c2) ⟨⟨_, _, ho⟩, ?_⟩⟩)
    have e0 : (List.replicate k.toNat xs).flatten = [] := by
      have : k.toNat = 0 := by omega
      rw [this]; rfl
    refine ⟨.ref s.heap.objs.size, _, I.laid (t' := s.toks) (o := .tup (List.replicate k.toNat xs).flatten) (fun b ob q => Heap.get?_push_of_some _ q) (Nat.le_refl _) ?_, rfl, q2 hs1 _ (I.hok.fresh (Nat.le_refl _))⟩
    rw [e0]
    exact ⟨Nat.zero_le _, [], .nil, IsTup.new _ _⟩
end
def mulT : D → D → Option D
  | .tup xs, .int k => if decide (-1000 ≤ k) && decide (k ≤ 1000) && Nat.ble xs.length 1000 then some (.tup (List.replicate k.toNat xs).flatten) else none
  | _, _ => none
theorem o_mulT {K : PySem.W.Frag} : Op2 K (rRepA K) mulT := fun {c os ρ μ σ H x y d1 d2 d Q} r p1 p2 e q => by
  unfold mulT at e
  split at e
  · rename_i xs k
    split at e
    · rename_i hl
      cases e
      simp only [Bool.and_eq_true, decide_eq_true_eq] at hl
      obtain ⟨a, vs, rfl, g1, g2⟩ := p1.inv_tup
      have hlen : vs.length ≤ 1000 := by rw [g2.length]; exact Nat.le_of_ble_eq_true hl.2
      refine ⟨a, k, vs, rfl, p2.inv_int, vw_le.sqT g1, hl.1.1, hl.1.2, hlen, fun z => ?_, fun _ p n => VOk.newT q r (g2.rep _) n⟩
      rcases z with z | z
      · subst z
        cases g2
        have e0 : (List.replicate k.toNat ([] : List D)).flatten = [] := by
          induction k.toNat with
          | zero => rfl
          | succ n ih => rw [List.replicate_succ, List.flatten_cons, ih]; rfl
        rw [e0] at q
        exact VOk.same q r (.tup g1 .nil)
      · subst z
        have e0 : (List.replicate (1 : Int).toNat xs).flatten = xs := by
          show (List.replicate 1 xs).flatten = xs
          simp
        rw [e0] at q
        exact VOk.same q r (.tup g1 g2)
    · cases e
  · cases e
/-! ### t[::-1] -/
section
variable {prog : Program} {w : World} {A : Around} {E : Value → Shared → Prop} {s : Shared}
theorem sliceApplied_rev {sl : Addr} {t : Tok} {n : Nat} {Q : Int × Int × Nat → Shared → Prop} (hs : s.heap.IsSliceOf sl .none .none (.int (-1) t))
    (h : Q ((n : Int) - 1, -1, n) s) : wpAny (model prog w) A (Builtin.Slice.sliceApplied (.ref sl) (pure (n : Int))) Q E s := by
  obtain ⟨os, hos, hcs, hds⟩ := id hs
  unfold Builtin.Slice.sliceApplied Builtin.Slice.sliceFields
  refine wpAny_bind (wpAny_bind (wpAny_field hos hds (x := .none) rfl (wpAny_bind (wpAny_field hos hds (x := .none) rfl (wpAny_bind (wpAny_field hos hds (x := .int (-1) t) rfl (wpAny_pure ?_)))))))
  refine wpAny_bind (slicePart_int ?_)
  show wpAny _ _ (if ((-1 : Int) == 0) = true then _ else _) _ _ s
  rw [if_neg (by decide)]
  refine wpAny_bind (slicePart_none (wpAny_bind (slicePart_none (wpAny_bind (wpAny_pure ?_)))))
  have e1 : Builtin.Slice.sliceAdjust none none (-1) (n : Int) = ((n : Int) - 1, -1) := by
    unfold Builtin.Slice.sliceAdjust
    simp
  show wpAny _ _ (match Builtin.Slice.sliceAdjust none none (-1) (n : Int) with | (lo, hi) => pure (lo, (-1 : Int), Builtin.Slice.slicePlaces lo hi (-1))) _ _ s
  rw [e1]
  have e2 : Builtin.Slice.slicePlaces ((n : Int) - 1) (-1) (-1) = n := by
    unfold Builtin.Slice.slicePlaces
    simp
    split <;> omega
  show wpAny _ _ (pure ((n : Int) - 1, (-1 : Int), Builtin.Slice.slicePlaces ((n : Int) - 1) (-1) (-1))) _ _ s
  rw [e2]
  exact wpAny_pure h
theorem fm_congr {α β : Type} {f g : α → Option β} : ∀ {l : List α}, (∀ k, k ∈ l → f k = g k) → l.filterMap f = l.filterMap g
  | [], _ => rfl
  | a :: l, h => by
    rw [List.filterMap_cons, List.filterMap_cons, h a (by simp), fm_congr fun k hk => h k (List.mem_cons_of_mem _ hk)]
theorem pick_rev (xs : Array Value) : ((List.range xs.size).filterMap fun (k : Nat) => xs[((xs.size : Int) - 1 + (k : Int) * (-1)).toNat]?).toArray = xs.toList.reverse.toArray := by
  have e : ∀ k, k ∈ List.range xs.size → xs[((xs.size : Int) - 1 + (k : Int) * (-1)).toNat]? = xs.toList.reverse[k]? := fun k hk => by
    have hk := List.mem_range.mp hk
    have e2 : ((xs.size : Int) - 1 + (k : Int) * (-1)).toNat = xs.size - 1 - k := by omega
    rw [e2, List.getElem?_reverse (by simpa using hk)]
    simp
  have h2 : (List.range xs.size).filterMap (fun (k : Nat) => xs[((xs.size : Int) - 1 + (k : Int) * (-1)).toNat]?) = xs.toList.reverse := by
    have h3 : ∀ (l : List Value) (n : Nat), n = l.length → (List.range n).filterMap (fun k => l[k]?) = l := fun l n hn => by
      subst hn
      induction l with
      | nil => rfl
      | cons a l ih =>
        rw [List.length_cons, List.range_succ_eq_map, List.filterMap_cons]
        simp only [List.getElem?_cons_zero]
        rw [List.filterMap_map]
        have : ((fun k => (a :: l)[k]?) ∘ Nat.succ) = fun k => l[k]? := by funext k; simp
        rw [this, ih]
    rw [fm_congr e]
    exact h3 _ _ (by simp)
  rw [h2]
theorem getItem_tuple_rev {t sl : Addr} {items : Array Value} {tk : Tok} {Q : Value → Shared → Prop} (ht : IsTup s.heap t items) (hs : s.heap.IsSliceOf sl .none .none (.int (-1) tk))
    (h : Q (.ref s.heap.objs.size) { s with heap := s.heap.push { cls := .type "tuple", data := .seq items.toList.reverse.toArray } })
    (hsz : items.size ≤ sizeLine) : wpAny (model prog w) A (getItem (.ref t) (.ref sl)) Q E s := by
  have htake : sizeOk (.seq items.toList.reverse.toArray) := by
    show items.toList.reverse.toArray.size ≤ sizeLine
    simpa using hsz
  obtain ⟨os, hos, hcs, hds⟩ := id hs
  have hTs : s.TypeIs (.ref sl) "slice" := ⟨os, hos, hcs⟩
  unfold getItem
  try with_reducible refine wpAny_holding ?_
  first | refine wpAny_bind (wpAny_pure ?_) | skip
  refine wpAny_bind (wpAny_sequenceKey ht.typeIs (by decide) ?_)
  refine wpAny_bind (wpAny_callSpecial?_slot (name := Str.ofString "__getitem__") ht.typeIs PyProof.Rows.slot_tuple_getitem
    (wpAny_call_entry PyProof.Rows.slot_tuple_getitem ht.typeIs entry_tuple_getitem ?_ (args_tuple_getitem _ _)))
  show wpAny _ _ (Builtin.Tuple.tupleItemsOf (.ref t) >>= _) _ _ s
  refine wpAny_bind (tupleItemsOf_ ht ?_)
  refine wpAny_bind (wpAny_typeOf hTs ?_)
  rw [if_pos (by decide)]
  refine wpAny_bind (sliceApplied_rev hs ?_)
  have hno : ¬ ((((items.size : Nat) : Int) - 1 == 0 && (-1 : Int) == 1 && items.size == items.size) = true) := by
    intro q
    rw [Bool.and_eq_true, Bool.and_eq_true] at q
    exact absurd q.1.2 (by decide)
  show wpAny _ _ (if (((items.size : Nat) : Int) - 1 == 0 && (-1 : Int) == 1 && items.size == items.size) = true then _ else _) _ _ s
  rw [if_neg hno, pick_rev]
  first
    | exact wpAny_bind (m := Builtin.Tuple.tupleExact _) (wpAny_newObj_type (wpAny_pure ⟨_, rfl, wpAny_pure h⟩) htake)
    | exact wpAny_bind (m := Builtin.Tuple.tupleExact _) (wpAny_newObj_type (wpAny_bind (wpAny_pure (wpAny_pure ⟨_, rfl, wpAny_pure h⟩))) htake)
    | exact wpAny_bind (wpAny_bind (m := Builtin.Tuple.tupleExact _) (wpAny_newObj_type (wpAny_pure (wpAny_pure ⟨_, rfl, wpAny_pure h⟩)) htake))
    | exact wpAny_bind (wpAny_bind (m := Builtin.Tuple.tupleExact _) (wpAny_newObj_type (wpAny_pure ⟨_, rfl, wpAny_pure h⟩) htake))
end
def tRevT (K : PySem.W.Frag) (te : TE) : TE := fun σ H Q => te σ H fun x H1 => ∃ a xs, x = .ref a ∧ SqT K H1 a xs ∧ ∀ p, H1 p = none → Q (.ref p) (upd H1 p (.tup xs.reverse))
section
variable {X : Cx}
theorem pe_revT {e : Expr} {te : TE} {k : Nat} {p1 p2 p3 pos : Pos} (he : PE X e te) : PE X (.Subscript e (.Slice none none (some (.UnaryOp .USub (.Constant (.int 1) k p1) p2)) p3) pos) (tRevT X.K te) := by
  refine ⟨fun pins s σ H Q I h => ?_⟩
  refine Subscript_ (thn (he.run pins s σ H _ I h) fun v s1 ⟨x, H1, I1, r1, q1⟩ => ?_)
  obtain ⟨a, xs, ex, hx, q⟩ := q1
  subst ex
  cases r1
  have hst : PO X (some (.UnaryOp .USub (.Constant (.int 1) k p1) p2)) (tPart (tUn (rU fun i => .int (-i)) (tC (.int 1)))) := po_some (pe_un un_neg pe_int)
  refine wpAny_Slice (thn (po_none.run pins s1 σ H1 (fun o H2 => o = none ∧ H2 = H1) I1 ⟨rfl, rfl⟩) fun vl s2 ⟨l, H2, I2, pl, el, e2⟩ => ?_)
  subst el e2
  refine thn (po_none.run pins s2 σ H2 (fun o H3 => o = none ∧ H3 = H2) I2 ⟨rfl, rfl⟩) fun vu s3 ⟨u, H3, I3, pu, eu, e3⟩ => ?_
  subst eu e3
  refine thn (hst.run pins s3 σ H3 (fun o H4 => o = some (-1) ∧ H4 = H3) I3 ⟨1, rfl, -1, rfl, rfl, rfl⟩) fun vs s4 ⟨o, H4, I4, ps, eo, e4⟩ => ?_
  subst eo e4
  have I5 : Inv X pins σ H4 { s4 with heap := s4.heap.push { cls := .type "slice", data := .fields #[vl, vu, vs] } } := I4.kept (t' := s4.toks) fun b ob q => Heap.get?_push_of_some _ q
  obtain ⟨its, r, ht, hz⟩ := I5.tuple hx
  have hlen := r.length
  cases pl
  cases pu
  cases ps with
  | int _ tk =>
  show wpAny (model X.prog X.w) X.A (subscriptTail e (.Slice none none (some (.UnaryOp .USub (.Constant (.int 1) k p1) p2)) p3) (.ref a) (.ref s4.heap.objs.size)) (EP X pins σ Q) X.xe { s4 with heap := s4.heap.push { cls := .type "slice", data := .fields #[.none, .none, .int (-1) tk] } }
  refine tail_any (ops := [.ref a, .ref s4.heap.objs.size]) ht.typeIs (PyProof.Rows.slot_tuple_getitem.lookup) ?_ (by with_unfolding_all rfl)
  refine getItem_tuple_rev ht (Heap.IsSliceOf.new _ _ _ _) ?_ (by rw [List.size_toArray]; omega)
  refine ⟨.ref _, _, I5.laid (t' := s4.toks) (o := .tup xs.reverse) (fun b ob q => Heap.get?_push_of_some _ q) (Nat.le_refl _) ?_, rfl, q _ (I5.hok.fresh (Nat.le_refl _))⟩
  exact ⟨by rw [List.length_reverse]; exact hz, _, r.reverse, IsTup.new _ _⟩
end
def revTD : D → Option D
  | .tup xs => some (.tup xs.reverse)
  | _ => none
theorem dRevT {X : Cx} {cl : Nat → Addr} {W : WX} {f : XD} {e : Expr} {k : Nat} {p1 p2 p3 pos : Pos} (he : PE X e (tE X.K cl W f)) : PE X (.Subscript e (.Slice none none (some (.UnaryOp .USub (.Constant (.int 1) k p1) p2)) p3) pos) (tE X.K cl W (xUn revTD f)) := pe_imp (pe_revT he) fun σ H Q => by
  rintro ⟨c, os, ρ, μ, r, h⟩
  refine ⟨c, os, ρ, μ, r, (Out.bind h).imp (fun d1 μ1 h1 => ?_) fun _ _ q => q⟩
  intro v1 H1 r1 e1 p1
  obtain ⟨d, e, h3⟩ := Out.ofO h1
  unfold revTD at e
  split at e
  · cases e
    obtain ⟨a, vs, z, g1, g2⟩ := p1.inv_tup
    subst z
    exact ⟨a, vs, rfl, vw_le.sqT g1, fun p n => VOk.newT (VOk.mono e1 h3) r1 g2.reverse n⟩
  · cases e
end DC
set_option Elab.async false
set_option linter.all false
set_option maxRecDepth 100000
set_option maxHeartbeats 4000000
/-! DC: enumerate of tuples and texts. -/
namespace DC
open PySem PySem.Spec PyProof.Rows L2
open AutoSeq1 (wpAny_loadPart')
section
variable {prog : Program} {w : World} {A : Around} {E : Value → Shared → Prop} {s : Shared}
theorem meets_enumT (l : Addr) (items : Array Value) (n : Nat) (dct : Option Addr) (sl : Array (Option Value)) :
    Meets (Builtin.«enumerate.__new__» ⟨[.type "enumerate", .ref l], []⟩) (fun _ R s => s.heap.get? l = some { cls := .type "tuple", dict := dct, data := .seq items n, slots := sl } ∧
      R (.ok (.ret (.ref (s.heap.push { cls := .type "tuple_iterator", data := .fields #[.ref l, .int 0 0] }).objs.size)))
        { s with heap := (s.heap.push { cls := .type "tuple_iterator", data := .fields #[.ref l, .int 0 0] }).push { cls := .type "enumerate", data := .fields #[.none, .bool false, .ref s.heap.objs.size, rawInt 0, .none, .none] } }) :=
  .of_wp fun prog w A R s h => by
    obtain ⟨hp, g, d, tk, os⟩ := s; obtain ⟨hl, h⟩ := h
    have hsub := sub_enumerate
    have hL : Heap.IsTuple (Shared.heap ⟨hp, g, d, tk, os⟩) l items := ⟨_, hl, rfl, n, rfl⟩
    wp_walk using wpAny_loadPart' hl
    refine wpAny_stack_any fun st => wpAny_pure ?_
    split
    · rename_i c _ _ _ _ _
      cases (c == Value.type "enumerate")
      · wp_walk using wpAny_loadPart' hl, wpAny_pyIter_tuple hL
        exact ⟨_, rfl, h⟩
      · wp_walk using wpAny_loadPart' hl, wpAny_pyIter_tuple hL
        exact ⟨_, rfl, h⟩
    · wp_walk using wpAny_loadPart' hl, wpAny_pyIter_tuple hL
      exact ⟨_, rfl, h⟩
theorem call_enumT {l : Addr} {items : Array Value} {Q : Value → Shared → Prop} (hL : s.heap.IsTuple l items)
    (h : ∀ h', IsEnum h' (s.heap.objs.size + 1) s.heap.objs.size 0 .none → h'.IsTupleIter s.heap.objs.size l 0 → h'.objs.size = s.heap.objs.size + 2 →
      (∀ b o, s.heap.get? b = some o → h'.get? b = some o) → Q (.ref (s.heap.objs.size + 1)) { s with heap := h' }) :
    wpAny (model prog w) A (call (.type "enumerate") [.ref l]) Q E s := by
  obtain ⟨⟨c, dct, dt, sl⟩, hl, hc, n, hd⟩ := hL
  replace hc : c = .type "tuple" := hc
  replace hd : dt = .seq items n := hd
  subst hc hd
  refine callType_new F.called_enumerate (by decide) (F.typeCall_enumerate_1 _) (F.newCall_enumerate_1 _) (fun obj => F.args_object_init_2 obj _) F.entry_enumerate_new
    (meets_enumT l items n dct sl) ⟨hl, ?_⟩
  have hz : (s.heap.push { cls := .type "tuple_iterator", data := .fields #[.ref l, .int 0 0] }).objs.size = s.heap.objs.size + 1 := Heap.size_push ..
  show _ ∧ _
  rw [hz]
  have he : IsEnum ((s.heap.push { cls := .type "tuple_iterator", data := .fields #[.ref l, .int 0 0] }).push
      { cls := .type "enumerate", data := .fields #[.none, .bool false, .ref s.heap.objs.size, rawInt 0, .none, .none] }) (s.heap.objs.size + 1) s.heap.objs.size 0 .none := by
    have := Heap.get?_push_size (s.heap.push { cls := .type "tuple_iterator", data := .fields #[.ref l, .int 0 0] })
      (o := { cls := .type "enumerate", data := .fields #[.none, .bool false, .ref s.heap.objs.size, rawInt 0, .none, .none] }) rfl
    rw [hz] at this; exact this
  refine ⟨⟨_, he, rfl⟩, h _ he ⟨_, Heap.get?_push_of_some _ (Heap.get?_push_size _ rfl), rfl, rfl⟩ (by rw [Heap.size_push, hz]) fun b o x => Heap.get?_push_of_some _ (Heap.get?_push_of_some _ x)⟩
end
/-- the tuple at a as it stands at each turn, each item in a new pair -/
def IteT (K : PySem.W.Frag) (a : Addr) : It :=
  ⟨fun i H => ∃ (xs : List V) (x : V), SqT K H a xs ∧ xs[i]? = some x, fun i H v H' => ∃ T x, v = .ref T ∧ H T = none ∧ H' = upd H T (.tup [.int (i : Nat), x]) ∧ ∀ xs, SqT K H a xs → xs[i]? = some x, fun i H => ∃ xs : List V, SqT K H a xs ∧ xs.length = i⟩
theorem turn_enumT {P : Program} {w : World} {K : PySem.W.Frag} {elts : List Expr} {kk : Nat} {tpos : Pos} {a e it : Addr} (hae : e ≠ a) (hai : a ≠ it) :
    Turn P w K (.Tuple elts kk tpos) (IteT K a) [e, it] e (fun i h => (∃ old, IsEnum h e it ((i : Nat) : Int) old) ∧ h.IsTupleIter it a i ∧ e ≠ it) where
  mem := by simp
  obj := fun i h st b hb => by
    obtain ⟨⟨old, he⟩, ⟨o, ho, hc, hd⟩, _⟩ := st
    have e' : b = e ∨ b = it := by simpa using hb
    rcases e' with z | z
    · rw [z]; exact ⟨_, he, fun v q => nomatch q⟩
    · rw [z]; exact ⟨o, ho, fun v q => by rw [hd] at q; cases q⟩
  keep := fun i h h' st k => let ⟨⟨old, he⟩, hi, hne⟩ := st; ⟨⟨old, k e (by simp) _ he⟩, hi.at fun o q => k it (by simp) o q, hne⟩
  item := by
    intro X hP hw hK hc i pins s σ H E I hf st hg
    subst hP hw hK
    obtain ⟨⟨old, he⟩, hit, hne⟩ := st
    obtain ⟨xs, x, hq, hx⟩ := hg
    obtain ⟨its, rv, p, hz⟩ := I.tuple hq
    obtain ⟨u, hu, ru⟩ := rv.get hx
    have hel : e < s.heap.objs.size := Heap.lt_size he
    have hil : it < s.heap.objs.size := by obtain ⟨_, q, _⟩ := hit; exact Heap.lt_size q
    have hlt : i < its.toArray.size := by
      have := (List.getElem?_eq_some_iff.mp hu).1
      simpa using this
    have D := Draws.tuple (prog := X.prog) (w := X.w) (A := X.A.in1) (I.ok.hd hc) it a hai its.toArray
    refine wpAny_pyNext_enum_itemD D he ⟨hit, (show s.heap.IsTuple a its.toArray from p)⟩ hlt hne (by simp [hne, hae]) fun y h' tk hy ho hst' hT hsz hk => ?_
    have ey : y = u := by
      have h1 : its.toArray[i]? = some u := by simpa using hu
      rw [h1] at hy
      exact (Option.some.inj hy).symm
    subst ey
    refine ⟨_, rfl, wpAny_letOwnedTupleGo_enum (s := { s with heap := h', toks := tk + 1 }) ho fun h'' he' sb => ?_⟩
    have hT2 : h''.get? s.heap.objs.size = some { cls := .type "tuple", data := .seq #[.int i tk, y] } := (sb.2 _ (Nat.ne_of_gt hel)).trans hT
    have new : ObjOk X.prog X.w (upd H s.heap.objs.size (.tup [.int (i : Nat), x])) h'' s.heap.objs.size (.tup [.int (i : Nat), x]) :=
      ⟨by show 2 ≤ sizeLine; decide, [.int i tk, y], .cons ⟨_, rfl⟩ (.cons ru .nil), ⟨_, hT2, rfl, _, rfl⟩⟩
    have I1 : Inv X pins σ (upd H s.heap.objs.size (.tup [.int (i : Nat), x])) { s with heap := h'', toks := tk + 1 } :=
      I.turnedNew (ch := [e, it]) (fun b ob hb q => (sb.2 b (fun z => hb (by simp [z]))).trans (hk b ob (fun z => hb (by simp [z])) (fun z => hb (by simp [z])) q)) hf (Nat.le_refl _) new
    refine ⟨.ref s.heap.objs.size, _, I1, rfl, ⟨_, x, rfl, I.hok.fresh (Nat.le_refl _), rfl, fun ys hy => by rw [I.tuple_inj hy hq]; exact hx⟩, ⟨⟨y, ?_⟩, hst'.1.at fun o q => (sb.2 it (Ne.symm hne)).trans q, hne⟩, fun b hb => ?_⟩
    · have e1 : ((i + 1 : Nat) : Int) = (i : Int) + 1 := by omega
      rw [e1]; exact he'
    · have hb' : b < s.heap.objs.size := by
        have e' : b = e ∨ b = it := by simpa using hb
        rcases e' with z | z
        · rw [z]; exact hel
        · rw [z]; exact hil
      rw [upd_ne (Nat.ne_of_lt hb')]
      exact (hf b hb).1
  done := by
    intro X hP hw hK hc i pins s σ H E I hf st hg
    subst hP hw hK
    obtain ⟨⟨old, he⟩, hit, hne⟩ := st
    obtain ⟨xs, hq, hx⟩ := hg
    obtain ⟨its, rv, p, hz⟩ := I.tuple hq
    obtain ⟨f0, f1, f2, f3, f4, f5⟩ := hf it (by simp)
    have hl := rv.length
    have D := Draws.tuple (prog := X.prog) (w := X.w) (A := X.A.in1) (I.ok.hd hc) it a hai its.toArray
    have hsz : its.toArray.size = i := by rw [List.size_toArray, ← hl, hx]
    exact wpAny_pyNext_enum_endD D he (by rw [hsz]; exact ⟨hit, (show s.heap.IsTuple a its.toArray from p)⟩) fun h' eb => ⟨rfl, I.turned (t' := s.toks) (fun b o hb q => eb b o hb q) f0 f1 f3 f4 f5⟩
  self := fun A i s Q E st h => let ⟨⟨_, he⟩, _⟩ := st; wpAny_pyIter_enum he h
def iEnumT (K : PySem.W.Frag) (ta : TA) : TI := fun σ H R => ta σ H fun vs H1 => ∃ a xs, vs = [.ref a] ∧ SqT K H1 a xs ∧ R (IteT K a) H1
theorem pi_enumT {X : Cx} {e : Expr} {ta : TA} {p pos tpos : Pos} {elts : List Expr} {kk : Nat} (hg : Gl X "enumerate") (hm : X.mg "enumerate" = none) (ha : PA X [e] ta) (hs : starEach [e] X.env = [(false, eval e X.env)] := by rfl) :
    PI X (.Tuple elts kk tpos) (.Call (.Name "enumerate" p) [e] [] pos) (iEnumT X.K ta) := by
  refine ⟨fun pins s σ H R I h => ?_⟩
  refine Call_ (ld_blt I hg hm boot_enumerate (PyProof.Rows.callWith_type1 (thn (ha.run pos pins s σ H _ I h) fun us s1 ⟨vs, H1, I1, r1, q1⟩ => ?_) hs rfl))
  obtain ⟨a, xs, ex, hq, q⟩ := q1
  subst ex
  cases r1 with
  | cons r rr =>
    cases rr
    cases r
    obtain ⟨its, rv, p', hz⟩ := I1.tuple hq
    have hal : a < s1.heap.objs.size := by obtain ⟨o, ho, _⟩ := (show s1.heap.IsTuple a its.toArray from p'); exact Heap.lt_size ho
    refine call_enumT (show s1.heap.IsTuple a its.toArray from p') fun h' he hit hsz hk => wpAny_pyIter_enum he ?_
    have I2 : Inv X pins σ H1 { s1 with heap := h' } := I1.kept (t' := s1.toks) hk
    refine ⟨s1.heap.objs.size + 1, [s1.heap.objs.size + 1, s1.heap.objs.size], _, _, H1, rfl, I2, turn_enumT (a := a) (e := s1.heap.objs.size + 1) (it := s1.heap.objs.size) (Nat.ne_of_gt (Nat.lt_succ_of_lt hal)) (Nat.ne_of_lt hal), ⟨⟨.none, he⟩, hit, Nat.succ_ne_self _⟩, fun b hb => ?_, q⟩
    have e' : b = s1.heap.objs.size + 1 ∨ b = s1.heap.objs.size := by simpa using hb
    have hle : s1.heap.objs.size ≤ b := by
      rcases e' with z | z
      · rw [z]; exact Nat.le_add_right _ _
      · rw [z]; exact Nat.le_refl _
    exact I1.fpOk hle (I1.hok.fresh hle)
theorem walk_enumT {K : PySem.W.Frag} {a : Addr} {xs : List V} : Walk (IteT K a) xs.length (fun H => SqT K H a xs) (YPair (fun i => some (.int (i : Nat))) (fun i => xs[i]?)) := by
  refine ⟨fun i _ hi q => ⟨xs, xs[i], q, by simp [hi]⟩, fun _ q => ⟨xs, q, rfl⟩, fun i H v H' _ q y => ?_⟩
  obtain ⟨T, x, h1, h2, h3, h4⟩ := y
  exact ⟨T, .int (i : Nat), x, h1, h2, h3, rfl, h4 xs q⟩
/-- the signs of a text, each in a new pair -/
def IteS (z : Str) : It :=
  ⟨fun i _ => i < z.cps.size, fun i H v H' => ∃ T c, v = .ref T ∧ H T = none ∧ z.cps[i]? = some c ∧ H' = upd H T (.tup [.int (i : Nat), .str ⟨#[c]⟩]), fun i _ => z.cps.size = i⟩
theorem turn_enumS {P : Program} {w : World} {K : PySem.W.Frag} {elts : List Expr} {kk : Nat} {tpos : Pos} {z : Str} {t : Tok} {e it : Addr} :
    Turn P w K (.Tuple elts kk tpos) (IteS z) [e, it] e (fun i h => (∃ old, IsEnum h e it ((i : Nat) : Int) old) ∧ h.IsStrIter it (strIterType z) z t i ∧ e ≠ it) where
  mem := by simp
  obj := fun i h st b hb => by
    obtain ⟨⟨old, he⟩, ⟨o, ho, hc, hd⟩, _⟩ := st
    have e' : b = e ∨ b = it := by simpa using hb
    rcases e' with z | z
    · rw [z]; exact ⟨_, he, fun v q => nomatch q⟩
    · rw [z]; exact ⟨o, ho, fun v q => by rw [hd] at q; cases q⟩
  keep := fun i h h' st k => let ⟨⟨old, he⟩, ⟨o, ho, r⟩, hne⟩ := st; ⟨⟨old, k e (by simp) _ he⟩, ⟨o, k it (by simp) o ho, r⟩, hne⟩
  item := by
    intro X hP hw hK hc i pins s σ H E I hf st hg
    subst hP hw hK
    obtain ⟨⟨old, he⟩, hit, hne⟩ := st
    have hel : e < s.heap.objs.size := Heap.lt_size he
    have hil : it < s.heap.objs.size := by obtain ⟨_, q, _⟩ := hit; exact Heap.lt_size q
    have D := Draws.text (prog := X.prog) (w := X.w) (A := X.A.in1) (I.ok.hd hc) it z t
    refine wpAny_pyNext_enum_itemD D he hit hg hne (by simp [hne]) fun y h' tk hy ho hst' hT hsz hk => ?_
    obtain ⟨c, u, hc1, hc2⟩ := hy
    subst hc2
    refine ⟨_, rfl, wpAny_letOwnedTupleGo_enum (s := { s with heap := h', toks := tk + 1 }) ho fun h'' he' sb => ?_⟩
    have hT2 : h''.get? s.heap.objs.size = some { cls := .type "tuple", data := .seq #[.int i tk, .str ⟨#[c]⟩ u] } := (sb.2 _ (Nat.ne_of_gt hel)).trans hT
    have new : ObjOk X.prog X.w (upd H s.heap.objs.size (.tup [.int (i : Nat), .str ⟨#[c]⟩])) h'' s.heap.objs.size (.tup [.int (i : Nat), .str ⟨#[c]⟩]) :=
      ⟨by show 2 ≤ sizeLine; decide, [.int i tk, .str ⟨#[c]⟩ u], .cons ⟨_, rfl⟩ (.cons ⟨_, rfl⟩ .nil), ⟨_, hT2, rfl, _, rfl⟩⟩
    have I1 : Inv X pins σ (upd H s.heap.objs.size (.tup [.int (i : Nat), .str ⟨#[c]⟩])) { s with heap := h'', toks := tk + 1 } :=
      I.turnedNew (ch := [e, it]) (fun b ob hb q => (sb.2 b (fun z => hb (by simp [z]))).trans (hk b ob (fun z => hb (by simp [z])) (fun z => hb (by simp [z])) q)) hf (Nat.le_refl _) new
    refine ⟨.ref s.heap.objs.size, _, I1, rfl, ⟨_, c, rfl, I.hok.fresh (Nat.le_refl _), hc1, rfl⟩, ⟨⟨.str ⟨#[c]⟩ u, ?_⟩, ?_, hne⟩, fun b hb => ?_⟩
    · have e1 : ((i + 1 : Nat) : Int) = (i : Int) + 1 := by omega
      rw [e1]; exact he'
    · obtain ⟨o, ho2, r⟩ := hst'
      exact ⟨o, (sb.2 it (Ne.symm hne)).trans ho2, r⟩
    · have hb' : b < s.heap.objs.size := by
        have e' : b = e ∨ b = it := by simpa using hb
        rcases e' with z | z
        · rw [z]; exact hel
        · rw [z]; exact hil
      rw [upd_ne (Nat.ne_of_lt hb')]
      exact (hf b hb).1
  done := by
    intro X hP hw hK hc i pins s σ H E I hf st hg
    subst hP hw hK
    obtain ⟨⟨old, he⟩, hit, hne⟩ := st
    obtain ⟨f0, f1, f2, f3, f4, f5⟩ := hf it (by simp)
    have D := Draws.text (prog := X.prog) (w := X.w) (A := X.A.in1) (I.ok.hd hc) it z t
    have hg' : z.cps.size = i := hg
    exact wpAny_pyNext_enum_endD D he (by rw [hg']; exact hit) fun h' eb => ⟨rfl, I.turned (t' := s.toks) (fun b o hb q => eb b o hb q) f0 f1 f3 f4 f5⟩
  self := fun A i s Q E st h => let ⟨⟨_, he⟩, _⟩ := st; wpAny_pyIter_enum he h
def iEnumS (ta : TA) : TI := fun σ H R => ta σ H fun vs H1 => ∃ z, vs = [.str z] ∧ R (IteS z) H1
theorem pi_enumS {X : Cx} {e : Expr} {ta : TA} {p pos tpos : Pos} {elts : List Expr} {kk : Nat} (hg : Gl X "enumerate") (hm : X.mg "enumerate" = none) (ha : PA X [e] ta) (hs : starEach [e] X.env = [(false, eval e X.env)] := by rfl) :
    PI X (.Tuple elts kk tpos) (.Call (.Name "enumerate" p) [e] [] pos) (iEnumS ta) := by
  refine ⟨fun pins s σ H R I h => ?_⟩
  refine Call_ (ld_blt I hg hm boot_enumerate (PyProof.Rows.callWith_type1 (thn (ha.run pos pins s σ H _ I h) fun us s1 ⟨vs, H1, I1, r1, q1⟩ => ?_) hs rfl))
  obtain ⟨z, ex, q⟩ := q1
  subst ex
  cases r1 with
  | cons r rr =>
    cases rr
    obtain ⟨t, rfl⟩ := r
    refine call_enumerate_str fun h' he hit hsz hk => wpAny_pyIter_enum he ?_
    have I2 : Inv X pins σ H1 { s1 with heap := h' } := I1.kept (t' := s1.toks) hk
    refine ⟨s1.heap.objs.size + 1, [s1.heap.objs.size + 1, s1.heap.objs.size], _, _, H1, rfl, I2, turn_enumS (z := z) (t := t) (e := s1.heap.objs.size + 1) (it := s1.heap.objs.size), ⟨⟨.none, he⟩, hit, Nat.succ_ne_self _⟩, fun b hb => ?_, q⟩
    have e' : b = s1.heap.objs.size + 1 ∨ b = s1.heap.objs.size := by simpa using hb
    have hle : s1.heap.objs.size ≤ b := by
      rcases e' with z | z
      · rw [z]; exact Nat.le_add_right _ _
      · rw [z]; exact Nat.le_refl _
    exact I1.fpOk hle (I1.hok.fresh hle)
theorem walk_enumS {z : Str} : Walk (IteS z) z.cps.size (fun _ => True) (YPair (fun i => some (.int (i : Nat))) (fun i => (z.cps[i]?).map fun c => V.str ⟨#[c]⟩)) := by
  refine ⟨fun i _ hi _ => hi, fun _ _ => rfl, fun i H v H' _ _ y => ?_⟩
  obtain ⟨T, c, h1, h2, h3, h4⟩ := y
  exact ⟨T, .int (i : Nat), .str ⟨#[c]⟩, h1, h2, h4, rfl, by show (z.cps[i]?).map _ = _; rw [h3]; rfl⟩
/-! ### enumerate of lists, tuples, texts; zip of lists, of tuples: by values -/
def wEnumA (f : XD) : XL := fun ρ μ => (f ρ μ).bind fun d μ' => match d with
  | .lst xs => .ok (enumD xs) μ'
  | .tup xs => .ok (enumD xs) μ'
  | .str z => .ok (enumD (strD z)) μ'
  | _ => .fail
section
variable {X : Cx} {cl : Nat → Addr} {W : WX} {tg e e2 : Expr} {f : XD} {fs : XL} {p pos tpos : Pos} {elts : List Expr} {kk : Nat}
theorem enumD_len (xs : List D) : (enumD xs).length = xs.length := by unfold enumD; rw [List.length_mapIdx]
theorem enumD_get {xs : List D} {i : Nat} {d : D} (h : xs[i]? = some d) : (enumD xs)[i]? = some (.tup [.int (i : Nat), d]) := by
  unfold enumD
  rw [List.getElem?_mapIdx, h]
  rfl
theorem jEnumA (h : PE X e (tE X.K cl W f)) (hg : Gl X "enumerate") (hm : X.mg "enumerate" = none) (hs : starEach [e] X.env = (false, eval e X.env) :: starEach [] X.env := by rfl) (hs' : starEach [e] X.env = [(false, eval e X.env)] := by rfl) :
    PI X (.Tuple elts kk tpos) (.Call (.Name "enumerate" p) [e] [] pos) (tI X.K cl W (wEnumA f)) := by
  have ha := aCons h (aNil (cl := cl) (W := W)) hs
  refine pi_imp (pi_or (pi_enum hg hm ha hs') (pi_or (pi_enumT hg hm ha hs') (pi_enumS hg hm ha hs'))) fun σ H R => ?_
  rintro ⟨c, os, ρ, μ, r, h⟩
  have h' := Out.bind h
  have one : ∀ d μ1, f ρ μ = .ok d μ1 → lCons f lNil ρ μ = .ok [d] μ1 := fun d μ1 e => by
    unfold lCons
    rw [e]
    rfl
  cases ef : f ρ μ with
  | fail => rw [ef] at h'; exact h'.elim
  | exc x μ1 =>
    rw [ef] at h'
    refine .inl ⟨c, os, ρ, μ, r, ?_⟩
    unfold lCons
    rw [ef]
    exact h'
  | ok d μ1 =>
    rw [ef] at h'
    cases d with
    | lst es =>
      refine .inl ⟨c, os, ρ, μ, r, ?_⟩
      rw [one _ _ ef]
      intro vs H1 r1 k pv
      obtain ⟨v, z, pu⟩ := pv.one
      subst z
      obtain ⟨a, us, rfl, g1, g2⟩ := pu.inv_lst
      refine ⟨a, us, rfl, .inl (.inl (vw_le _ _ g1)), h' _ H1 r1 k ⟨fun H => SqL X.K H a us, fun H2 e => .inl (.inl (e _ _ g1)), ?_⟩⟩
      rw [show (enumD es).length = us.length by rw [enumD_len, g2.length]]
      refine walk_enum.mono (fun _ h => h) fun i H x H' _ _ y => ?_
      obtain ⟨q, x, y, h1, h2, h3, h4, h5⟩ := y
      obtain ⟨d, e1, e2⟩ := g2.getV h5
      cases h4
      exact ⟨.tup [.int (i : Nat), d], enumD_get e1, .inr ⟨q, _, y, _, d, h1, h2, h3, rfl, .int _, e2⟩⟩
    | tup es =>
      refine .inr (.inl ⟨c, os, ρ, μ, r, ?_⟩)
      rw [one _ _ ef]
      intro vs H1 r1 k pv
      obtain ⟨v, z, pu⟩ := pv.one
      subst z
      obtain ⟨a, us, rfl, g1, g2⟩ := pu.inv_tup
      refine ⟨a, us, rfl, vw_le.sqT g1, h' _ H1 r1 k ⟨fun H => SqT X.K H a us, fun H2 e => e.sqT g1, ?_⟩⟩
      rw [show (enumD es).length = us.length by rw [enumD_len, g2.length]]
      refine walk_enumT.mono (fun _ h => h) fun i H x H' _ _ y => ?_
      obtain ⟨q, x, y, h1, h2, h3, h4, h5⟩ := y
      obtain ⟨d, e1, e2⟩ := g2.getV h5
      cases h4
      exact ⟨.tup [.int (i : Nat), d], enumD_get e1, .inr ⟨q, _, y, _, d, h1, h2, h3, rfl, .int _, e2⟩⟩
    | str z =>
      refine .inr (.inr ⟨c, os, ρ, μ, r, ?_⟩)
      rw [one _ _ ef]
      intro vs H1 r1 k pv
      obtain ⟨v, zz, pu⟩ := pv.one
      subst zz
      obtain ⟨e1, e2⟩ := pu.inv_str
      subst e1
      refine ⟨z, rfl, h' _ H1 r1 k ⟨fun _ => True, fun _ _ => trivial, ?_⟩⟩
      rw [show (enumD (strD z)).length = z.cps.size by rw [enumD_len]; unfold strD; rw [List.length_map, Array.length_toList]]
      refine walk_enumS.mono (fun _ h => h) fun i H x H' _ _ y => ?_
      obtain ⟨q, x, y, h1, h2, h3, h4, h5⟩ := y
      obtain ⟨ch, e3, e4⟩ := Option.map_eq_some_iff.mp h5
      cases h4
      subst e4
      refine ⟨.tup [.int (i : Nat), .str ⟨#[ch]⟩], enumD_get ?_, .inr ⟨q, _, _, _, .str ⟨#[ch]⟩, h1, h2, h3, rfl, .int _, .str ?_⟩⟩
      · unfold strD
        rw [List.getElem?_map, Array.getElem?_toList, e3]
        rfl
      · rw [strOk_iff] at e2
        have := List.all_eq_true.mp e2 ch (by
          have : z.cps.toList[i]? = some ch := by rw [Array.getElem?_toList, e3]
          exact List.mem_of_getElem? this)
        unfold strOk
        simpa using this
    | _ => exact h'.elim
def wZipA (fs : XL) : XL := fun ρ μ => (fs ρ μ).bind fun ds μ' => match ds with
  | [.lst xs, .lst ys] => .ok (List.zipWith pairD xs ys) μ'
  | [.tup xs, .tup ys] => .ok (List.zipWith pairD xs ys) μ'
  | _ => .fail
theorem walk_zipT {K : PySem.W.Frag} {a b : Addr} {xs ys : List V} {n : Nat} (hn : n = min xs.length ys.length) : Walk (RZ.ItzT K a b) n (fun H => SqT K H a xs ∧ SqT K H b ys) (YPair (fun i => xs[i]?) (fun i => ys[i]?)) := by
  subst hn
  refine ⟨fun i _ hi q => ?_, fun _ q => ⟨xs, ys, q.1, q.2, by omega⟩, fun i H v H' _ q y => ?_⟩
  · have h1 : i < xs.length := by omega
    have h2 : i < ys.length := by omega
    exact ⟨xs, ys, xs[i], ys[i], q.1, q.2, by simp [h1], by simp [h2]⟩
  · obtain ⟨T, x, z, h1, h2, h3, h4, h5⟩ := y
    exact ⟨T, x, z, h1, h2, h3, h4 xs q.1, h5 ys q.2⟩
theorem jZipA (h : PI X tg e (RZ.iZipA X.K (tL X.K cl W fs))) : PI X tg e (tI X.K cl W (wZipA fs)) := pi_imp h fun σ H R => by
  rintro ⟨c, os, ρ, μ, r, h⟩
  refine ⟨c, os, ρ, μ, r, (Out.bind h).imp (fun ds μ1 h1 => ?_) fun _ _ q => q⟩
  intro vs H1 r1 k pv
  split at h1
  · rename_i xs ys
    obtain ⟨v, w, z, pu, pw⟩ := pv.two
    subst z
    obtain ⟨a, us, rfl, g1, g2⟩ := pu.inv_lst
    obtain ⟨b, ws, rfl, g3, g4⟩ := pw.inv_lst
    refine ⟨a, b, us, ws, rfl, .inl ⟨.inl (.inl (vw_le _ _ g1)), .inl (.inl (vw_le _ _ g3)), h1 _ H1 r1 k ⟨fun H => SqL X.K H a us ∧ SqL X.K H b ws, fun H2 e => ⟨.inl (.inl (e _ _ g1)), .inl (.inl (e _ _ g3))⟩, ?_⟩⟩⟩
    exact (walk_zip (by rw [List.length_zipWith, g2.length, g4.length])).mono (fun _ h => h) fun i H x H' _ _ y => pair_get g2 g4 i H x H' y
  · rename_i xs ys
    obtain ⟨v, w, z, pu, pw⟩ := pv.two
    subst z
    obtain ⟨a, us, rfl, g1, g2⟩ := pu.inv_tup
    obtain ⟨b, ws, rfl, g3, g4⟩ := pw.inv_tup
    refine ⟨a, b, us, ws, rfl, .inr ⟨vw_le.sqT g1, vw_le.sqT g3, h1 _ H1 r1 k ⟨fun H => SqT X.K H a us ∧ SqT X.K H b ws, fun H2 e => ⟨e.sqT g1, e.sqT g3⟩, ?_⟩⟩⟩
    exact (walk_zipT (by rw [List.length_zipWith, g2.length, g4.length])).mono (fun _ h => h) fun i H x H' _ _ y => pair_get g2 g4 i H x H' y
  · exact h1.elim
end
end DC
set_option Elab.async false
set_option linter.all false
set_option maxRecDepth 100000
set_option maxHeartbeats 4000000
/-! DC: dicts; comprehensions with a name. -/
namespace DC
open PySem PySem.Spec PyProof.Rows L2
section
variable {K : PySem.W.Frag} {c : Ct} {os : List (Option Addr)} {ρ : Env} {μ : Store} {σ : L2.St} {H H' : Hp} {a : Addr} {Q : VK}
theorem Rl.tupSeen (r : Rl K c os ρ μ σ H) {b : Addr} {xs : List V} (h : H b = some (.tup xs)) : vw c os H b = some (.tup xs) := by
  refine vw_some.mpr ⟨h, fun z => ?_, fun z => ?_, fun z => ?_⟩
  · obtain ⟨o, e, n⟩ := r.dom b z
    rw [h] at e; cases e
    exact n xs rfl
  · obtain ⟨i, hi⟩ := List.getElem?_of_mem z
    have hlt : i < c.T.length := (List.getElem?_eq_some_iff.mp hi).1
    have h1 : i < μ.length := by rw [r.sm]; exact hlt
    have := r.st i b _ hi (List.getElem?_eq_getElem h1)
    rw [h] at this; cases this
  · obtain ⟨o, e, n⟩ := r.ownSomeN z
    rw [h] at e; cases e
    exact n xs rfl
/-! ### look up, put -/
def lookD {κ : Type} [DecidableEq κ] : List κ → List D → κ → Option D
  | k :: ks, v :: vs, j => if k = j then some v else lookD ks vs j
  | _, _, _ => none
def putVs {κ : Type} [DecidableEq κ] : List κ → List D → κ → D → List D
  | k :: ks, v :: vs, j, d => if k = j then d :: putVs ks vs j d else v :: putVs ks vs j d
  | _, vs, _, _ => vs
def putD {κ : Type} [DecidableEq κ] (ks : List κ) (vs : List D) (j : κ) (d : D) : List κ × List D := if j ∈ ks then (ks, putVs ks vs j d) else (ks ++ [j], vs ++ [d])
section
variable {κ : Type} [DecidableEq κ] {T : List Addr}
theorem look_ok : ∀ {kvs : List (κ × V)} {ks : List κ} {ds : List D} {k : κ}, kvs.map Prod.fst = ks → RpA K T H (kvs.map Prod.snd) ds → match lookD ks ds k with
    | some d => ∃ v, valV kvs k = some v ∧ Rp K T H v d
    | none => valV kvs k = none
  | [], _, _, k, rfl, r => by
    cases r
    show valV [] k = none
    rfl
  | (k0, v0) :: kvs, _, _, k, rfl, r => by
    cases r with
    | @cons _ _ d ds q r =>
      show match (if k0 = k then some d else lookD (kvs.map Prod.fst) ds k) with
        | some d => ∃ v, valV ((k0, v0) :: kvs) k = some v ∧ Rp K T H v d
        | none => valV ((k0, v0) :: kvs) k = none
      by_cases e : k0 = k
      · rw [if_pos e]
        exact ⟨v0, valV_pos (p := (k0, v0)) e, q⟩
      · rw [if_neg e, valV_neg (p := (k0, v0)) e]
        exact look_ok rfl r
theorem putVs_ok {k : κ} {v : V} {d : D} (p : Rp K T H v d) : ∀ {kvs : List (κ × V)} {ds : List D}, RpA K T H (kvs.map Prod.snd) ds → RpA K T H ((kvs.map fun kv => if kv.1 = k then (kv.1, v) else kv).map Prod.snd) (putVs (kvs.map Prod.fst) ds k d)
  | [], _, r => by cases r; exact .nil
  | (k0, v0) :: kvs, _, r => by
    cases r with
    | @cons _ _ d0 ds q r =>
      show RpA K T H ((if k0 = k then (k0, v) else (k0, v0)).2 :: _) (if k0 = k then d :: putVs (kvs.map Prod.fst) ds k d else d0 :: putVs (kvs.map Prod.fst) ds k d)
      by_cases e : k0 = k
      · rw [if_pos e, if_pos e]; exact .cons p (putVs_ok p r)
      · rw [if_neg e, if_neg e]; exact .cons q (putVs_ok p r)
theorem put_ok {k : κ} {v : V} {d : D} (p : Rp K T H v d) {kvs : List (κ × V)} {ks : List κ} {ds : List D} (e : kvs.map Prod.fst = ks) (r : RpA K T H (kvs.map Prod.snd) ds) :
    (putK kvs k v).map Prod.fst = (putD ks ds k d).1 ∧ RpA K T H ((putK kvs k v).map Prod.snd) (putD ks ds k d).2 := by
  subst e
  have ea : (kvs.any fun kv => decide (kv.1 = k)) = true ↔ k ∈ kvs.map Prod.fst := by
    rw [List.any_eq_true, List.mem_map]
    constructor
    · rintro ⟨x, hx, e⟩
      exact ⟨x, hx, of_decide_eq_true e⟩
    · rintro ⟨x, hx, e⟩
      exact ⟨x, hx, decide_eq_true e⟩
  unfold putK putD
  by_cases h : k ∈ kvs.map Prod.fst
  · rw [if_pos h, if_pos (ea.mpr h)]
    refine ⟨?_, putVs_ok p r⟩
    rw [List.map_map]
    apply List.map_congr_left
    intro x _
    show (if x.1 = k then (x.1, v) else x).1 = x.1
    split <;> rfl
  · rw [if_neg h, if_neg fun z => h (ea.mp z)]
    rw [List.map_append, List.map_append]
    exact ⟨rfl, r.append (.cons p .nil)⟩
end
def D.key : D → Option Key
  | .int i => some (.inl i)
  | .str x => some (.inr x)
  | _ => none
def D.keys : List D → Option (List Key)
  | [] => some []
  | d :: ds => (D.key d).bind fun k => (D.keys ds).map (k :: ·)
theorem key_ok {T : List Addr} {v : V} {d : D} {k : Key} (p : Rp K T H v d) (e : d.key = some k) : v = kV k := by
  cases d with
  | int i => cases e; exact p.inv_int
  | str x => cases e; exact p.inv_str.1
  | _ => cases e
theorem keys_ok {T : List Addr} : ∀ {ds : List D} {vs : List V} {ks : List Key}, RpA K T H vs ds → D.keys ds = some ks → vs = ks.map kV
  | [], _, _, r, e => by cases r; cases e; rfl
  | d :: ds, _, ks, r, e => by
    cases r with
    | cons q r =>
      obtain ⟨k, e1, e2⟩ := Option.bind_eq_some_iff.mp (show (D.key d).bind (fun k => (D.keys ds).map (k :: ·)) = some ks from e)
      obtain ⟨ks', e3, e4⟩ := Option.map_eq_some_iff.mp e2
      subst e4
      rw [key_ok q e1, keys_ok r e3]
      rfl
end
/-! ### {} and {k: v} -/
def xNewK : XD := fun _ μ => .ok (.dk [] []) μ
def xNewT : XD := fun _ μ => .ok (.dt [] []) μ
section
variable {K : PySem.W.Frag} {c : Ct} {os : List (Option Addr)} {ρ : Env} {μ : Store} {σ : L2.St} {H H' : Hp} {a : Addr} {Q : VK}
theorem Rl.frK (r : Rl K c os ρ μ σ H) {kvs : List (Key × V)} {ks : List Key} {ds : List D} (e : kvs.map Prod.fst = ks) (p : RpA K c.T (vw c os H) (kvs.map Prod.snd) ds) (n : H a = none) : Fr K c os ρ μ σ (upd H a (.dK kvs)) a (.dk ks ds) ∧ Kp c H (upd H a (.dK kvs)) := by
  obtain ⟨h1, h2, h3, h4⟩ := r.fresh n
  obtain ⟨q, x⟩ := r.av (o := .dK kvs) n
  exact ⟨⟨q, .dk upd_same e (p.mono x), h1, h2, h3, h4⟩, Kp.new n⟩
theorem Rl.frT (r : Rl K c os ρ μ σ H) {kvs : List (List Key × V)} {ks : List (List Key)} {ds : List D} (e : kvs.map Prod.fst = ks) (p : RpA K c.T (vw c os H) (kvs.map Prod.snd) ds) (n : H a = none) : Fr K c os ρ μ σ (upd H a (.dT kvs)) a (.dt ks ds) ∧ Kp c H (upd H a (.dT kvs)) := by
  obtain ⟨h1, h2, h3, h4⟩ := r.fresh n
  obtain ⟨q, x⟩ := r.av (o := .dT kvs) n
  exact ⟨⟨q, .dt upd_same e (p.mono x), h1, h2, h3, h4⟩, Kp.new n⟩
end
/-- {k: v}, k and v that read or change nothing new -/
def xDisp1 (k : Key) (d : D) : XD := fun _ μ => .ok (.dk [k] [d]) μ
section
variable {X : Cx} {cl : Nat → Addr} {W : WX} {fr : Bool} {pos pos' : Pos} {f fk fx fe : XD} {fs : XL} {o i e : Expr}
theorem dNewK : PE X (.Dict [] [] pos) (tF X.K cl W xNewK) := pe_imp pe_dnewK fun σ H Q => by
  rintro ⟨c, os, ρ, μ, r, h⟩
  intro p n
  obtain ⟨f, k⟩ := r.frK (kvs := []) rfl .nil n
  exact h p _ f k n
theorem dNewT : PE X (.Dict [] [] pos) (tF X.K cl W xNewT) := pe_imp pe_dnewT fun σ H Q => by
  rintro ⟨c, os, ρ, μ, r, h⟩
  intro p n
  obtain ⟨f, k⟩ := r.frT (kvs := []) rfl .nil n
  exact h p _ f k n
theorem dDisp1 {k : Key} {v : V} {d : D} (hk : PE X i (tC (kV k))) (hv : PE X e (tC v)) (hp : ∀ T Hv, Rp X.K T Hv v d) : PE X (.Dict [some i] [e] pos) (tF X.K cl W (xDisp1 k d)) :=
  pe_imp (pe_disp (pps_cons hk hv pps_nil) rfl rfl (by simp) (by simp)) fun σ H Q => by
  rintro ⟨c, os, ρ, μ, r, h⟩
  intro p n
  refine ⟨upd_same, [(k, v)], rfl, by simp, ?_⟩
  obtain ⟨f, kp⟩ := r.frK (kvs := [(k, v)]) rfl (.cons (hp _ _) .nil) n
  have e : upd (upd H p (.dK [])) p (.dK (mergeK [] [(k, v)])) = upd H p (.dK [(k, v)]) := by
    funext b
    by_cases hb : b = p
    · subst hb; rw [upd_same, upd_same]; rfl
    · rw [upd_ne hb, upd_ne hb, upd_ne hb]
  rw [e]
  exact h p _ f kp n
/-! ### d[k], d.get(k, x) -/
def getK (a b : D) : Option D := match a with
  | .dk ks vs => (D.key b).bind fun k => lookD ks vs k
  | _ => none
def get2K (a b x : D) : Option D := match a with
  | .dk ks vs => (D.key b).bind fun k => some ((lookD ks vs k).getD x)
  | _ => none
def xGetK (f fk : XD) : XD := fun ρ μ => (f ρ μ).bind fun a μ1 => (fk ρ μ1).bind fun b μ2 => Res.ofO (getK a b) μ2
def xGet2K (f fk fx : XD) : XD := fun ρ μ => (f ρ μ).bind fun a μ1 => match a with
  | .dk _ _ => (fk ρ μ1).bind fun b μ2 => (fx ρ μ2).bind fun x μ3 => Res.ofO (get2K a b x) μ3
  | _ => .fail
/-- the key is a tuple that is made there -/
def getT (a : D) (bs : List D) : Option D := match a with
  | .dt ks vs => (D.keys bs).bind fun k => lookD ks vs k
  | _ => none
def get2T (a : D) (bs : List D) (x : D) : Option D := match a with
  | .dt ks vs => (D.keys bs).bind fun k => some ((lookD ks vs k).getD x)
  | _ => none
def xGetT (f : XD) (fs : XL) : XD := fun ρ μ => (f ρ μ).bind fun a μ1 => (fs ρ μ1).bind fun bs μ2 => if lenOk bs then Res.ofO (getT a bs) μ2 else .fail
def xGet2T (f : XD) (fs : XL) (fx : XD) : XD := fun ρ μ => (f ρ μ).bind fun a μ1 => match a with
  | .dt _ _ => (fs ρ μ1).bind fun bs μ2 => if lenOk bs then (fx ρ μ2).bind fun x μ3 => Res.ofO (get2T a bs x) μ3 else .fail
  | _ => .fail
theorem dGetK (hu : X.A.units + 1 < cLine) (ho : PE X o (tE X.K cl W f)) (hi : PE X i (tE X.K cl W fk)) (hs : NoSl i := by intro _ _; rfl) : PE X (.Subscript o i pos) (tE X.K cl W (xGetK f fk)) := pe_imp (pe_dget hu ho hi hs) fun σ H Q => by
  rintro ⟨c, os, ρ, μ, r, h⟩
  refine ⟨c, os, ρ, μ, r, (Out.bind h).imp (fun d1 μ1 h1 => ?_) fun _ _ q => q⟩
  intro v1 H1 r1 e1 p1
  refine ⟨c, os, ρ, μ1, r1, (Out.bind h1).imp (fun d2 μ2 h2 => ?_) fun _ _ q => q.mono e1⟩
  intro v2 H2 r2 e2 p2
  obtain ⟨d, e, h3⟩ := Out.ofO h2
  unfold getK at e
  split at e
  · rename_i ks vs
    obtain ⟨k, e3, e4⟩ := Option.bind_eq_some_iff.mp e
    obtain ⟨a, kvs, z, g1, g2, g3⟩ := (p1.mono e2.vw).inv_dk
    subst z
    have q := look_ok (k := k) g2 g3
    rw [e4] at q
    obtain ⟨v, q1, q2⟩ := q
    refine ⟨a, v, rfl, .inl ⟨kvs, k, vw_le.rd g1, key_ok p2 e3, q1.symm⟩, VOk.same (VOk.mono (e1.trans e2) h3) r2 q2⟩
  · cases e
theorem dGet2K {apos cpos : Pos} (hu : X.A.units + 1 < cLine) (ho : PE X o (tE X.K cl W f)) (hi : PE X i (tE X.K cl W fk)) (hx : PE X e (tE X.K cl W fx)) (m : M2 X o "get" apos i e cpos) : PE X (.Call (.Attribute o "get" apos) [i, e] [] cpos) (tE X.K cl W (xGet2K f fk fx)) := pe_imp (pe_dget2 hu ho hi hx m) fun σ H Q => by
  rintro ⟨c, os, ρ, μ, r, h⟩
  refine ⟨c, os, ρ, μ, r, (Out.bind h).imp (fun d1 μ1 h1 => ?_) fun _ _ q => q⟩
  intro v1 H1 r1 e1 p1
  split at h1
  · rename_i ks vs
    obtain ⟨a, kvs, z, g1, g2, g3⟩ := p1.inv_dk
    subst z
    refine ⟨a, rfl, .inl ⟨kvs, vw_le.rd g1⟩, c, os, ρ, μ1, r1, (Out.bind h1).imp (fun d2 μ2 h2 => ?_) fun _ _ q => q.mono e1⟩
    intro v2 H2 r2 e2 p2
    refine ⟨c, os, ρ, μ2, r2, (Out.bind h2).imp (fun d3 μ3 h3 => ?_) fun _ _ q => q.mono (e1.trans e2)⟩
    intro v3 H3 r3 e3 p3
    obtain ⟨d, e, h4⟩ := Out.ofO h3
    have g1' := e3.vw.rd (e2.vw.rd g1)
    have g3' := (g3.mono e2.vw).mono e3.vw
    have q4 := VOk.mono ((e1.trans e2).trans e3) h4
    obtain ⟨k, e5, e6⟩ := Option.bind_eq_some_iff.mp (show (D.key d2).bind (fun k => some ((lookD ks vs k).getD d3)) = some d from e)
    cases e6
    have q := look_ok (k := k) g2 g3'
    refine ⟨valV kvs k, .inl ⟨kvs, k, vw_le.rd g1', key_ok p2 e5, rfl⟩, ?_⟩
    cases el : lookD ks vs k with
    | some dd =>
      rw [el] at q q4
      obtain ⟨v, q1, q2⟩ := q
      rw [q1]
      exact VOk.same q4 r3 q2
    | none =>
      rw [el] at q q4
      have q' : valV kvs k = none := q
      rw [q']
      exact VOk.same q4 r3 p3
  · exact h1.elim
/-- a tuple made as a key -/
def tKey (K : PySem.W.Frag) (cl : Nat → Addr) (W : WX) (fs : XL) : TE := fun σ H Q => ∃ c os ρ μ, Rl K c os ρ μ σ H ∧ Out (fs ρ μ) (fun ds μ' => lenOk ds = true ∧ ∀ b vs H', Rl K c os ρ μ' σ H' → Kp c H H' → H' b = some (.tup vs) → RpA K c.T (vw c os H') vs ds → Q (.ref b) H') (EOk K cl W c os ρ σ H)
theorem dKey {es : List Expr} {x1 : Nat} (h : PA X es (tL X.K cl W fs)) : PE X (.Tuple es x1 pos) (tKey X.K cl W fs) := pe_imp (pe_tup h) fun σ H Q => by
  rintro ⟨c, os, ρ, μ, r, h⟩
  refine ⟨c, os, ρ, μ, r, h.imp (fun ds μ1 h1 => ?_) fun _ _ q => q⟩
  intro vs H1 r1 e1 p1
  refine ⟨by rw [p1.length]; exact lenOk_le h1.1, fun p n => ?_⟩
  exact h1.2 p vs _ (r1.new n) (e1.trans (Kp.new n)) upd_same (p1.mono (r1.newX n))
theorem dGetT {es : List Expr} {x1 : Nat} {p2 : Pos} (hu : X.A.units + 1 < cLine) (ho : PE X o (tE X.K cl W f)) (hi : PA X es (tL X.K cl W fs)) (hs : NoSl (.Tuple es x1 p2) := by intro _ _; rfl) : PE X (.Subscript o (.Tuple es x1 p2) pos) (tE X.K cl W (xGetT f fs)) := pe_imp (pe_dget hu ho (dKey hi) hs) fun σ H Q => by
  rintro ⟨c, os, ρ, μ, r, h⟩
  refine ⟨c, os, ρ, μ, r, (Out.bind h).imp (fun d1 μ1 h1 => ?_) fun _ _ q => q⟩
  intro v1 H1 r1 e1 p1
  refine ⟨c, os, ρ, μ1, r1, (Out.bind h1).imp (fun ds μ2 h2 => ?_) fun _ _ q => q.mono e1⟩
  by_cases hl : lenOk ds = true
  · rw [if_pos hl] at h2
    obtain ⟨d, e, h3⟩ := Out.ofO h2
    refine ⟨hl, fun b vs H2 r2 e2 hb p2 => ?_⟩
    unfold getT at e
    split at e
    · rename_i ks us
      obtain ⟨k, e3, e4⟩ := Option.bind_eq_some_iff.mp e
      obtain ⟨a, kvs, z, g1, g2, g3⟩ := (p1.mono e2.vw).inv_dt
      subst z
      have q := look_ok (k := k) g2 g3
      rw [e4] at q
      obtain ⟨v, q1, q2⟩ := q
      refine ⟨a, v, rfl, .inr ⟨kvs, k, b, vw_le.rd g1, rfl, by rw [hb, keys_ok p2 e3], q1.symm⟩, VOk.same (VOk.mono (e1.trans e2) h3) r2 q2⟩
    · cases e
  · rw [if_neg hl] at h2
    exact h2.elim
theorem dGet2T {apos cpos p2 : Pos} {es : List Expr} {x1 : Nat} (hu : X.A.units + 1 < cLine) (ho : PE X o (tE X.K cl W f)) (hi : PA X es (tL X.K cl W fs)) (hx : PE X e (tE X.K cl W fx)) (m : M2 X o "get" apos (.Tuple es x1 p2) e cpos) : PE X (.Call (.Attribute o "get" apos) [.Tuple es x1 p2, e] [] cpos) (tE X.K cl W (xGet2T f fs fx)) := pe_imp (pe_dget2 hu ho (dKey hi) hx m) fun σ H Q => by
  rintro ⟨c, os, ρ, μ, r, h⟩
  refine ⟨c, os, ρ, μ, r, (Out.bind h).imp (fun d1 μ1 h1 => ?_) fun _ _ q => q⟩
  intro v1 H1 r1 e1 p1
  split at h1
  · rename_i ks vs
    obtain ⟨a, kvs, z, g1, g2, g3⟩ := p1.inv_dt
    subst z
    refine ⟨a, rfl, .inr ⟨kvs, vw_le.rd g1⟩, c, os, ρ, μ1, r1, (Out.bind h1).imp (fun ds μ2 h2 => ?_) fun _ _ q => q.mono e1⟩
    by_cases hl : lenOk ds = true
    · rw [if_pos hl] at h2
      refine ⟨hl, fun b us H2 r2 e2 hb p2 => ?_⟩
      refine ⟨c, os, ρ, μ2, r2, (Out.bind h2).imp (fun d3 μ3 h3 => ?_) fun _ _ q => q.mono (e1.trans e2)⟩
      intro v3 H3 r3 e3 p3
      obtain ⟨d, e, h4⟩ := Out.ofO h3
      have g1' := e3.vw.rd (e2.vw.rd g1)
      have g3' := (g3.mono e2.vw).mono e3.vw
      have q4 := VOk.mono ((e1.trans e2).trans e3) h4
      obtain ⟨k, e5, e6⟩ := Option.bind_eq_some_iff.mp (show (D.keys ds).bind (fun k => some ((lookD ks vs k).getD d3)) = some d from e)
      cases e6
      have q := look_ok (k := k) g2 g3'
      have hb3 : H3 b = some (.tup us) := vw_le _ _ (e3.vw _ _ (r2.tupSeen hb))
      refine ⟨valV kvs k, .inr ⟨kvs, k, b, vw_le.rd g1', rfl, by rw [hb3, keys_ok p2 e5], rfl⟩, ?_⟩
      cases el : lookD ks vs k with
      | some dd =>
        rw [el] at q q4
        obtain ⟨v, q1, q2⟩ := q
        rw [q1]
        exact VOk.same q4 r3 q2
      | none =>
        rw [el] at q q4
        have q' : valV kvs k = none := q
        rw [q']
        exact VOk.same q4 r3 p3
    · rw [if_neg hl] at h2
      exact h2.elim
  · exact h1.elim
/-! ### x[k] = e, x an own dict -/
def sPutK (i : Nat) (fk fe : XD) : SD := fun ρ μ => (fe ρ μ).st ρ fun d μ1 => match ρ[i]? with
  | some (.ow (.dk ks vs)) => (fk ρ μ1).st ρ fun k μ2 => match D.key k with
    | some k => if lenOk ks then .nx (ρ.set i (.ow (.dk (putD ks vs k d).1 (putD ks vs k d).2))) μ2 else .fail
    | none => .fail
  | _ => .fail
def sPutT (i : Nat) (fs : XL) (fe : XD) : SD := fun ρ μ => (fe ρ μ).st ρ fun d μ1 => match ρ[i]? with
  | some (.ow (.dt ks vs)) => (fs ρ μ1).st ρ fun bs μ2 => if lenOk bs then (match D.keys bs with
    | some k => if lenOk ks then .nx (ρ.set i (.ow (.dt (putD ks vs k d).1 (putD ks vs k d).2))) μ2 else .fail
    | none => .fail) else .fail
  | _ => .fail
theorem lenOk_lt {α : Type} {xs : List α} (h : lenOk xs = true) : xs.length < sizeLine := Nat.lt_of_le_of_lt (Nat.le_of_ble_eq_true h) (by rw [sizeLine_eq]; decide)
theorem hPutK {s0 : Stmt} {n : Nat} (h : PS X s0 (sDPut (tVar n) (tE X.K cl W fk) (tE X.K cl W fe))) : PS X s0 (tS X.K cl W fr (sPutK n fk fe)) := ps_imp h fun E σ H => by
  rintro ⟨c, os, ρ, μ, r, h⟩
  refine ⟨c, os, ρ, μ, r, (SOut.st h).imp (fun d μ1 h1 => ?_) fun _ _ q => q⟩
  intro v1 H1 r1 e1 p1
  split at h1
  · rename_i ks vs e0
    obtain ⟨a, g1, g2, g3⟩ := r1.getOw e0
    refine ⟨.ref a, g1, c, os, ρ, μ1, r1, (SOut.st h1).imp (fun kd μ2 h2 => ?_) fun _ _ q => q⟩
    intro v2 H2 r2 e2 p2
    split at h2
    · rename_i k ek
      by_cases hl : lenOk ks = true
      · rw [if_pos hl] at h2
        obtain ⟨a', k1, k2, k3⟩ := r2.getOw e0
        have ea : a' = a := by
          rw [g1] at k1
          have := Option.some.inj (Option.some.inj k1)
          cases this; rfl
        subst ea
        cases k3 with
        | @dk kvs _ _ q z kr =>
          have hlen : kvs.length < sizeLine := by
            have : kvs.length = ks.length := by rw [← z, List.length_map]
            rw [this]; exact lenOk_lt hl
          obtain ⟨w1, w2⟩ := put_ok (k := k) (p1.mono e2.vw) z kr
          exact ⟨a', _, rfl, .inl ⟨kvs, _, q, key_ok p2 ek, hlen, rfl⟩, h2 os σ _ (r2.change k1 k2 (.dk upd_same w1 w2))⟩
      · rw [if_neg hl] at h2
        exact h2.elim
    · exact h2.elim
  · exact h1.elim
theorem hPutT {s0 : Stmt} {n : Nat} (h : PS X s0 (sDPut (tVar n) (tKey X.K cl W fs) (tE X.K cl W fe))) : PS X s0 (tS X.K cl W fr (sPutT n fs fe)) := ps_imp h fun E σ H => by
  rintro ⟨c, os, ρ, μ, r, h⟩
  refine ⟨c, os, ρ, μ, r, (SOut.st h).imp (fun d μ1 h1 => ?_) fun _ _ q => q⟩
  intro v1 H1 r1 e1 p1
  split at h1
  · rename_i ks vs e0
    obtain ⟨a, g1, g2, g3⟩ := r1.getOw e0
    refine ⟨.ref a, g1, c, os, ρ, μ1, r1, (SOut.st h1).imp (fun bs μ2 h2 => ?_) fun _ _ q => q⟩
    by_cases hb : lenOk bs = true
    · rw [if_pos hb] at h2
      refine ⟨hb, fun b us H2 r2 e2 hu p2 => ?_⟩
      split at h2
      · rename_i k ek
        by_cases hl : lenOk ks = true
        · rw [if_pos hl] at h2
          obtain ⟨a', k1, k2, k3⟩ := r2.getOw e0
          have ea : a' = a := by
            rw [g1] at k1
            have := Option.some.inj (Option.some.inj k1)
            cases this; rfl
          subst ea
          cases k3 with
          | @dt kvs _ _ q z kr =>
            have hlen : kvs.length < sizeLine := by
              have : kvs.length = ks.length := by rw [← z, List.length_map]
              rw [this]; exact lenOk_lt hl
            obtain ⟨w1, w2⟩ := put_ok (k := k) (p1.mono e2.vw) z kr
            exact ⟨a', _, rfl, .inr ⟨kvs, _, b, q, rfl, by rw [hu, keys_ok p2 ek], hlen, rfl⟩, h2 os σ _ (r2.change k1 k2 (.dt upd_same w1 w2))⟩
        · rw [if_neg hl] at h2
          exact h2.elim
      · exact h2.elim
    · rw [if_neg hb] at h2
      exact h2.elim
  · exact h1.elim
/-! ### for k in x, x an own dict; it stands and is locked from there on -/
theorem ps_lockP {s0 : Stmt} {t : TS} (h : PS X s0 t) : PS X s0 (fun D σ H => ∃ d u, H d = some u ∧ Mut (some u) ∧ ∀ od, t D σ (upd H d (.frz od u))) :=
  ⟨fun pins s σ H D I hw => by
    obtain ⟨d, u, hd, mu, hw⟩ := hw
    obtain ⟨od, I1⟩ := I.lock hd mu
    exact h.run pins s σ _ _ I1 (hw od)⟩
def keyD : Key → D
  | .inl i => .int i
  | .inr x => .str x
def keyOk : Key → Bool
  | .inl _ => true
  | .inr x => strOk x
theorem keyD_ok {T : List Addr} {K : PySem.W.Frag} {H : Hp} {k : Key} (h : keyOk k = true) : Rp K T H (kV k) (keyD k) := by
  cases k with
  | inl i => exact .int i
  | inr x => exact .str h
end
section
variable {K : PySem.W.Frag} {c : Ct} {os : List (Option Addr)} {ρ : Env} {μ : Store} {σ : L2.St} {H H' : Hp} {a : Addr} {d : D}
/-- an own thing is written to, as it stands to the others -/
theorem Rl.updOwn (r : Rl K c os ρ μ σ H) {i : Nat} {o : HO} (h2 : os[i]? = some (some a)) (h3 : i < ρ.length) (h1 : σ[i]? = some (some (.ref a))) (hv : vw c (os.set i none) (upd H a o) a = some o → Rp K c.T (vw c (os.set i none) (upd H a o)) (.ref a) d) : Rl K c (os.set i none) (ρ.set i (.fz d)) μ σ (upd H a o) := by
  have hm : some a ∈ os := List.mem_of_getElem? h2
  have l1 : i < os.length := (List.getElem?_eq_some_iff.mp h2).1
  obtain ⟨w1, w2, w3⟩ := r.own a hm
  have nin : some a ∉ os.set i none := fun q => by
    obtain ⟨j, hj⟩ := List.getElem?_of_mem q
    by_cases e : i = j
    · subst e
      rw [List.getElem?_set_self l1] at hj; cases hj
    · rw [List.getElem?_set_ne e] at hj
      exact e (r.inj i j a h2 hj)
  have up : Exts (vw c os H) (vw c (os.set i none) (upd H a o)) := fun b u hb => by
    obtain ⟨q1, q2, q3, q4⟩ := vw_some.mp hb
    have nb : b ≠ a := fun z => q4 (by rw [z]; exact hm)
    exact vw_some.mpr ⟨by rw [upd_ne nb]; exact q1, q2, q3, fun z => q4 (mem_set_none z)⟩
  have hr := hv (vw_some.mpr ⟨upd_same, w2, w1, nin⟩)
  refine ⟨by simp [r.lo], by simp [r.lr], fun j u s x q1 q2 q3 => ?_, fun j k b q1 q2 => ?_, fun b q => r.own b (mem_set_none q), r.tA, r.tn, r.sm, fun n b ds q1 q2 => ?_, fun b u q1 q2 => ?_, fun b q => ?_⟩
  · by_cases hj : i = j
    · subst hj
      rw [List.getElem?_set_self l1] at q1
      rw [List.getElem?_set_self h3] at q2
      rw [h1] at q3
      cases q1; cases q2; cases q3
      exact hr
    · rw [List.getElem?_set_ne hj] at q1 q2
      have q := r.sl j u s x q1 q2 q3
      have hu : ∀ b, u = some b → b ≠ a := fun b eb z => by
        subst eb
        subst z
        exact hj (r.inj i j b h2 q1)
      unfold SlAt at q ⊢
      split at q
      · trivial
      · exact q.mono up
      · refine ⟨q.1, q.2.mono up (fun w hw => ?_)⟩
        rw [upd_ne (hu _ rfl)]; exact hw
      · exact q.elim
  · have g : ∀ m, (os.set i none)[m]? = some (some b) → os[m]? = some (some b) := fun m hm => by
      by_cases e : i = m
      · subst e
        rw [List.getElem?_set_self l1] at hm; cases hm
      · rw [List.getElem?_set_ne e] at hm; exact hm
    exact r.inj j k b (g j q1) (g k q2)
  · have nb : b ≠ a := fun z => by subst z; exact w1 (List.mem_of_getElem? q1)
    rw [upd_ne nb]; exact r.st n b ds q1 q2
  · have nb : b ≠ a := fun z => by
      subst z
      rw [q1] at w3; cases w3
    rw [upd_ne nb]
    exact r.keep b u q1 q2
  · obtain ⟨u, z, nu⟩ := r.dom b q
    have nb : b ≠ a := fun z => by subst z; exact w2 q
    exact ⟨u, by rw [upd_ne nb]; exact z, nu⟩
end
section
variable {X : Cx} {cl : Nat → Addr} {W : WX} {fr : Bool} {tg : Expr} {x : Str} {p : Pos} {is : List Nat}
def sForK (i : Nat) (g : Tg) (F : SD) : SD := fun ρ μ => match ρ[i]? with
  | some (.ow (.dk ks vs)) => if ks.all keyOk then sForL g F (ks.map keyD) (ρ.set i (.fz (.dk ks vs))) μ else .fail
  | _ => .fail
theorem hForK {s0 : Stmt} {i : Nat} {g : Tg} {F : SD} (h : PS X s0 (tFor (iKeys (tVar i)) (tG X.K is g) (tS X.K cl W fr F))) : PS X s0 (tS X.K cl W fr (sForK i g F)) := ps_imp (ps_lockP h) fun E σ H => by
  rintro ⟨c, os, ρ, μ, r, h⟩
  unfold sForK at h
  split at h
  · rename_i ks vs e0
    by_cases hk : ks.all keyOk = true
    · rw [if_pos hk] at h
      obtain ⟨a, g1, g2, g3⟩ := r.getOw e0
      cases g3 with
      | @dk kvs _ _ q z kr =>
        refine ⟨a, .dK kvs, q, trivial, fun od => ?_⟩
        have hi : i < ρ.length := (List.getElem?_eq_some_iff.mp e0).1
        have hm : some a ∈ os := List.mem_of_getElem? g2
        have up : Exts (vw c os H) (vw c (os.set i none) (upd H a (.frz od (.dK kvs)))) := fun b u hb => by
          obtain ⟨q1, q2, q3, q4⟩ := vw_some.mp hb
          have nb : b ≠ a := fun z => q4 (by rw [z]; exact hm)
          exact vw_some.mpr ⟨by rw [upd_ne nb]; exact q1, q2, q3, fun z => q4 (mem_set_none z)⟩
        have r1 := r.updOwn (d := .dk ks vs) (o := .frz od (.dK kvs)) g2 hi g1 fun hv => .dk (.inr ⟨od, hv⟩) z (kr.mono up)
        have hl1 : i < os.length := (List.getElem?_eq_some_iff.mp g2).1
        have nin : some a ∉ os.set i none := fun q => by
          obtain ⟨j, hj⟩ := List.getElem?_of_mem q
          by_cases e : i = j
          · subst e
            rw [List.getElem?_set_self hl1] at hj; cases hj
          · rw [List.getElem?_set_ne e] at hj
            exact e (r.inj i j a g2 hj)
        have hseen : vw c (os.set i none) (upd H a (.frz od (.dK kvs))) a = some (.frz od (.dK kvs)) :=
          vw_some.mpr ⟨upd_same, (r.own a hm).2.1, (r.own a hm).1, nin⟩
        -- the walk over the keys
        refine ⟨.ref a, g1, a, od, rfl, .inl ⟨kvs, upd_same, ?_⟩⟩
        have hw : Walk (Itk a od kvs) (ks.map keyD).length (fun H => H a = some (.frz od (.dK kvs))) (YD X.K c.T (vw c (os.set i none) (upd H a (.frz od (.dK kvs)))) (ks.map keyD)) := by
          have el : (ks.map keyD).length = kvs.length := by rw [List.length_map, ← z, List.length_map]
          rw [el]
          refine walk_keys.mono (fun _ h => h) fun j H x H' _ _ y => ?_
          obtain ⟨y1, k, v, y2, y3⟩ := y
          have ek : ks[j]? = some k := by rw [← z, List.getElem?_map, y2]; rfl
          refine ⟨keyD k, by rw [List.getElem?_map, ek]; rfl, .inl ⟨y1, ?_⟩⟩
          rw [y3]
          exact keyD_ok (List.all_eq_true.mp hk k (List.mem_of_getElem? ek))
        have hk' := r1.holds
        have r1h := r1.hold
        have hG : ∀ b o, vw c (os.set i none) (upd H a (.frz od (.dK kvs))) b = some o → b ∉ c.T ∧ ¬ c.A b := fun b o h => ⟨(vw_some.mp h).2.2.1, (vw_some.mp h).2.1⟩
        refine for_it hw (fun j σ H2 => ∃ os' ρ μ, Rl X.K (c.hold (vw c (os.set i none) (upd H a (.frz od (.dK kvs))))) os' ρ μ σ H2 ∧ SOut X.K cl W fr (c.hold (vw c (os.set i none) (upd H a (.frz od (.dK kvs))))) E (sForL g F ((ks.map keyD).drop j) ρ μ)) ⟨_, _, μ, r1h, SOut.hold h hk'⟩ ?_ ?_ ?_
        · rintro j σ H2 _ ⟨os', ρ, μ, r, _⟩
          exact vw_le _ _ (r.sees hG _ _ hseen)
        · rintro j x σ H2 H' hi ⟨os', ρ, μ, r, h⟩ y
          obtain ⟨d, e, r', p, k⟩ := y.rp r
          have hd : (ks.map keyD).drop j = d :: (ks.map keyD).drop (j + 1) := by
            obtain ⟨hl, e'⟩ := List.getElem?_eq_some_iff.mp e
            rw [← e']
            exact List.drop_eq_getElem_cons hl
          rw [hd] at h
          unfold sForL at h
          cases eg : g d ρ with
          | none => rw [eg] at h; exact h.elim
          | some ρ1 =>
            rw [eg] at h
            refine ⟨_, os', ρ, μ, d, ρ1, r', p, eg, fun os2 σ2 r2 s2 => ?_⟩
            refine ⟨_, os2, ρ1, μ, r2, ?_⟩
            have h' : SOut X.K cl W fr (c.hold (vw c (os.set i none) (upd H a (.frz od (.dK kvs))))) E (match F ρ1 μ with
              | .nx ρ' μ' => sForL g F ((ks.map keyD).drop (j + 1)) ρ' μ'
              | .ct ρ' μ' => sForL g F ((ks.map keyD).drop (j + 1)) ρ' μ'
              | .bk ρ' μ' => .nx ρ' μ'
              | r => r) := h
            cases eF : F ρ1 μ with
            | nx ρ' μ' => rw [eF] at h'; exact fun os' σ' H' r' => ⟨os', ρ', μ', r', h'⟩
            | ct ρ' μ' => rw [eF] at h'; exact fun os' σ' H' r' => ⟨os', ρ', μ', r', h'⟩
            | bk ρ' μ' => rw [eF] at h'; exact h'
            | rt d μ' => rw [eF] at h'; exact h'
            | exc x ρ' μ' => rw [eF] at h'; exact h'
            | fail => rw [eF] at h'; exact h'
        · rintro σ H2 ⟨os', ρ, μ, r, h⟩
          rw [List.drop_length] at h
          exact h os' σ H2 r
    · rw [if_neg hk] at h
      exact h.elim
  · exact h.elim
/-- x = [.. for ..] -/
theorem hAsgLc {s0 : Stmt} {i : Nat} {f : XL} {g : Tg} {t : XB} {fe : XD} {vs : List Nat} (h : PS X s0 (tAsg (tLc (tI X.K cl W f) (tG X.K is g) (tT X.K cl W0 t) (tE X.K cl W0 fe) vs) (gName i))) (hv : ∀ i ∈ is, i ∈ vs := by decide) : PS X s0 (tS X.K cl W fr (sAsgF i (xLc f g t fe vs))) :=
  hAsgF (ps_imp h fun E σ H q => lc_imp hv σ H _ q)
end
end DC
set_option Elab.async false
set_option linter.all false
set_option maxRecDepth 100000
set_option maxHeartbeats 4000000
/-! DC: sorted of dicts; sum of tuples; range downwards. -/
namespace DC
open PySem PySem.Spec PyProof.Rows L2
inductive All2 {α β : Type} (R : α → β → Prop) : List α → List β → Prop
  | nil : All2 R [] []
  | cons {a : α} {b : β} {as : List α} {bs : List β} : R a b → All2 R as bs → All2 R (a :: as) (b :: bs)
theorem All2.of_map {α β γ : Type} {R : β → γ → Prop} {f : α → β} {g : α → γ} : ∀ {l : List α}, (∀ x, x ∈ l → R (f x) (g x)) → All2 R (l.map f) (l.map g)
  | [], _ => .nil
  | x :: l, h => .cons (h x (by simp)) (All2.of_map fun y hy => h y (List.mem_cons_of_mem _ hy))
def pairAt (H : Hp) (v : Value) : Int × Int := match v with
  | .ref t => match H t with
    | some (.tup [.int i, .int j]) => (i, j)
    | _ => (0, 0)
  | _ => (0, 0)
def rSortedDT : List V → Hp → VK → Prop := fun vs H Q => ∃ (a : Addr) (kvs : List (List Key × V)) (ps : List (Int × Int)), vs = [.ref a] ∧ Rd H a (.dT kvs) ∧ kvs.map Prod.fst = ps.map (fun p => [Sum.inl p.1, Sum.inl p.2]) ∧
  ∀ (qs : List (Int × Int)) (ys : List V) (p : Addr), qs.Perm ps → qs.Pairwise (fun a b => SrtO.lexB b a = false) → All2 (fun y q => ∃ t, y = V.ref t ∧ H t = some (.tup [.int q.1, .int q.2])) ys qs → H p = none → Q (.ref p) (upd H p (.lst ys))
theorem KT_map {H : Hp} : ∀ {kvs : List (List Key × V)} {xs : List (List Key × Addr × Value)} {ps : List (Int × Int)}, KT H kvs xs → kvs.map Prod.fst = ps.map (fun p => [Sum.inl p.1, Sum.inl p.2]) → All2 (fun (x : List Key × Addr × Value) q => H x.2.1 = some (.tup [.int q.1, .int q.2])) xs ps
  | _, _, ps, .nil, e => by
    cases ps with
    | nil => exact .nil
    | cons p ps => cases e
  | _, _, ps, .cons (a := kv) h t, e => by
    cases ps with
    | nil => cases e
    | cons p ps =>
      rw [List.map_cons, List.map_cons] at e
      obtain ⟨e1, e2⟩ := List.cons.inj e
      refine .cons ?_ (KT_map t e2)
      obtain ⟨_, h2, _⟩ := h
      rw [h2, e1]
      rfl
theorem All2.length {α β : Type} {R : α → β → Prop} : ∀ {as : List α} {bs : List β}, All2 R as bs → as.length = bs.length
  | _, _, .nil => rfl
  | _, _, .cons _ t => by rw [List.length_cons, List.length_cons, t.length]
theorem All2.get {α β : Type} {R : α → β → Prop} : ∀ {as : List α} {bs : List β} {i : Nat} {a : α}, All2 R as bs → as[i]? = some a → ∃ b, bs[i]? = some b ∧ R a b
  | _, _, i, a, .nil, e => by simp at e
  | _, _, 0, a, .cons (b := b) h t, e => by
    have e' := Option.some.inj (by simpa using e)
    subst e'
    exact ⟨b, rfl, h⟩
  | _, _, i + 1, a, .cons h t, e => by
    obtain ⟨b, h1, h2⟩ := All2.get (i := i) t (by simpa using e)
    exact ⟨b, by simpa using h1, h2⟩
section
variable {X : Cx}
theorem call_sortedDT (hcalm : X.calm = true) : CallR X (.builtin "sorted") rSortedDT := by
  intro pins s σ H xs us Q I r q
  obtain ⟨a, kvs, ps, ex, hd, hks, q⟩ := q
  subst ex
  obtain ⟨u, eu, rx⟩ := vals1 r
  subst eu
  cases rx
  obtain ⟨z, lo, xs, rel, dd⟩ := dt_rd I.hok hd
  obtain ⟨o, es, ep, ho, hx, hdat, hes, his, hn⟩ := dd
  have l1 : kvs.length = xs.length := Paired.length rel
  have l2 : es.size = xs.length := size_of_entries hes
  have hal := KT_map rel hks
  have h16 : es.size ≤ sizeLine := by rw [l2, ← l1]; exact z
  refine Calls.call_function_entry PyProof.Rows.kind_sorted PyProof.Rows.plain_sorted PyProof.Rows.entry_sorted (PyProof.Rows.args_sorted1 _) ?_
  unfold Builtin.«sorted»
  refine wpAny_bind (m := checkCount "sorted" 1 1 _) (wpAny_pure ?_)
  refine wpAny_bind (PySem.W.kdu_collect (A := X.A.in1) (KdlSrc.rawDict (es := es) (ep := ep) lo) (I.ok.hd hcalm) ⟨o, ho, hx, hdat⟩ h16 fun h' tk acc hk hacc => ?_)
  have hlen : acc.toList.length = xs.length := by rw [Array.length_toList, hacc.1, l2]
  have hacc2 : acc.toList = xs.map (fun x => Value.ref x.2.1) := by
    apply List.ext_getElem?
    intro j
    cases e : acc.toList[j]? with
    | none =>
      have : xs.length ≤ j := by rw [← hlen]; exact List.getElem?_eq_none_iff.mp e
      rw [List.getElem?_map, List.getElem?_eq_none this]; rfl
    | some v =>
      obtain ⟨hi, ev⟩ := hacc.2 j v (by rw [← Array.getElem?_toList]; exact e)
      have h1 : es.toList[j]? = some es[j] := by rw [Array.getElem?_toList]; exact Array.getElem?_eq_getElem hi
      rw [hes, List.getElem?_map] at h1
      obtain ⟨x, h2, h3⟩ := Option.map_eq_some_iff.mp h1
      rw [List.getElem?_map, h2]
      rw [ev, ← h3]
      rfl
  have hp : ∀ v ∈ acc.toList, Srt.IsPair h' v (pairAt H v).1 (pairAt H v).2 := fun v hv => by
    rw [hacc2] at hv
    obtain ⟨x, hx1, hx2⟩ := List.mem_map.mp hv
    obtain ⟨j, hj⟩ := List.getElem?_of_mem hx1
    obtain ⟨p, hp1, hp2⟩ := hal.get hj
    subst hx2
    have e1 : pairAt H (.ref x.2.1) = p := by
      show (match H x.2.1 with
        | some (.tup [.int i, .int j]) => (i, j)
        | _ => (0, 0)) = p
      rw [hp2]
    rw [e1]
    obtain ⟨_, its2, r2, o, ho, hc, n, hd⟩ := I.hok _ _ hp2
    obtain ⟨u1, u2, rfl, ri, rj⟩ := vals2 r2
    obtain ⟨t1, rfl⟩ := ri
    obtain ⟨t2, rfl⟩ := rj
    exact ⟨_, o, t1, t2, n, rfl, hk _ _ ho, hc, hd⟩
  have hmap : acc.toList.map (pairAt H) = ps := by
    rw [hacc2, List.map_map]
    apply List.ext_getElem?
    intro j
    rw [List.getElem?_map]
    cases e : xs[j]? with
    | none =>
      have : ps.length ≤ j := by rw [← hal.length]; exact List.getElem?_eq_none_iff.mp e
      rw [List.getElem?_eq_none this]; rfl
    | some x =>
      obtain ⟨p, hp1, hp2⟩ := hal.get e
      rw [hp1]
      show some (pairAt H (.ref x.2.1)) = some p
      congr 1
      show (match H x.2.1 with
        | some (.tup [.int i, .int j]) => (i, j)
        | _ => (0, 0)) = p
      rw [hp2]
  have I1 : Inv X pins σ H { s with heap := h', toks := tk } := I.kept hk
  have hz : acc.toList.length ≤ sizeLine := by rw [hlen, ← l1]; exact z
  refine wpAny_bind (wpAny_newList ?_ hz)
  have hoL : (h'.push (seqObj "list" acc.toList.toArray 0)).get? h'.objs.size = some (seqObj "list" acc.toList.toArray 0) := Heap.get?_push_size _ rfl
  show wpAny _ _ _ _ _ { s with heap := h'.push (seqObj "list" acc.toList.toArray 0), toks := tk }
  refine wpAny_bind (wpAny_holding (wpAny_call_entry PyProof.Rows.slot_list_sort ⟨_, hoL, rfl⟩ PyProof.Rows.entry_list_sort
    (SrtO.list_sort_ord (s := { s with heap := h'.push (seqObj "list" acc.toList.toArray 0), toks := tk }) (SrtO.swo_lex (pairAt H)) hoL hz (fun h2 => SrtO.pairs_sortableO (by omega) (fun v hv => (hp v hv).keeps fun b o e _ => Heap.get?_push_of_some _ e) fun o e => ?_) fun out hs hb => ⟨_, rfl, ?_⟩) (PyProof.Rows.args_list_sort _)))
  · have e' : some o = some (seqObj "list" acc.toList.toArray 0) := e.symm.trans hoL
    cases e'
    intro c
    exact absurd (Value.type.inj c) (by decide)
  · obtain ⟨e', he'⟩ := PyProof.Rows.sortedHeap_at (vs := acc.toList) (out := out.toArray) hoL
    have h3 : ∀ u ∈ out, ∃ a, u = Value.ref a := fun u hu => by
      have := hb.perm.mem_iff.mp hu
      rw [hacc2] at this
      obtain ⟨x, _, hx2⟩ := List.mem_map.mp this
      exact ⟨_, hx2.symm⟩
    have hlen2 : (out.map backV).length ≤ sizeLine := by
      rw [List.length_map, hb.perm.length_eq]
      exact hz
    refine wpAny_pure ⟨_, rfl, .ref h'.objs.size, upd H h'.objs.size (.lst (out.map backV)), I1.laid (t' := tk) (fun b u e => ?_) (Nat.le_refl _)
      (show ObjOk X.prog X.w _ _ _ (.lst (out.map backV)) from ⟨hlen2, out, e', vals_back h3, he'⟩), rfl, q (out.map (pairAt H)) _ _ ?_ ?_ ?_ (I1.hok.fresh (Nat.le_refl _))⟩
    · have hb : b < h'.objs.size := Heap.lt_size e
      rw [PyProof.Rows.sortedHeap_old (Nat.ne_of_lt hb) (by rw [size_push']; exact Nat.lt_succ_of_lt hb)]
      exact Heap.get?_push_of_some _ e
    · rw [← hmap]
      exact hb.perm.map _
    · exact List.pairwise_map.mpr hs
    · refine All2.of_map fun v hv => ?_
      have hv2 := hb.perm.mem_iff.mp hv
      rw [hacc2] at hv2
      obtain ⟨x, hx1, hx2⟩ := List.mem_map.mp hv2
      obtain ⟨j, hj⟩ := List.getElem?_of_mem hx1
      obtain ⟨p, hp1, hp2⟩ := hal.get hj
      subst hx2
      have e1 : pairAt H (.ref x.2.1) = p := by
        show (match H x.2.1 with
          | some (.tup [.int i, .int j]) => (i, j)
          | _ => (0, 0)) = p
        rw [hp2]
      exact ⟨x.2.1, rfl, by rw [e1]; exact hp2⟩
end
/-! ### sum of a tuple of ints -/
theorem preSum_ints (ns : List Int) : ∀ j, j ≤ ns.length → preSum (fun i => ns.getD i 0) j = (ns.take j).sum
  | 0, _ => rfl
  | j + 1, h => by
    have hlt : j < ns.length := h
    show preSum (fun i => ns.getD i 0) j + ns.getD j 0 = _
    rw [preSum_ints ns j (Nat.le_of_lt hlt)]
    have e : ns.take (j + 1) = ns.take j ++ [ns[j]] := by
      rw [List.take_add_one, List.getElem?_eq_getElem hlt] <;> rfl
    rw [e, List.sum_append]
    simp [hlt]
section
variable {X : Cx}
theorem call_sumT (hc : X.calm = true) : CallR X (.builtin "sum") (fun vs H Q => ∃ (a : Addr) (ns : List Int), vs = [V.ref a] ∧ SqT X.K H a (ns.map V.int) ∧ Q (.int ns.sum) H) := by
  intro pins s σ H vs us Q I r h
  obtain ⟨a, ns, rfl, hs, q⟩ := h
  obtain ⟨its, rv, hl, _⟩ := I.tuple hs
  rw [Vals.ref1 r]
  have hi := rv.ints
  have hlen : its.length = ns.length := by rw [← rv.length, List.length_map]
  have hal : a < s.heap.objs.size := by obtain ⟨o, ho, _⟩ := (show s.heap.IsTuple a its.toArray from hl); exact Heap.lt_size ho
  refine call_sum_walkAnyS ?_
  refine wpAny_pyIter_tuple (show s.heap.IsTuple a its.toArray from hl) ?_
  refine ⟨s.heap.objs.size, _, _, _, _, _, _, fun i => ns.getD i 0, rfl, (Walks.tuple (A := X.A.in1) (I.ok.hd hc) s.heap.objs.size a (Nat.ne_of_lt hal) its.toArray).toS, ⟨⟨_, Heap.get?_push_size _ rfl, rfl, rfl⟩, (show s.heap.IsTuple a its.toArray from hl).at fun o e => Heap.get?_push_of_some _ e⟩, fun b hb => ?_, fun i v hv => ?_, fun s' t' hm => ?_⟩
  · show b < (s.heap.push _).objs.size
    rw [size_push']
    rcases List.mem_cons.mp hb with e | hb
    · rw [e]; exact Nat.lt_succ_self _
    · rw [List.mem_singleton.mp hb]; exact Nat.lt_succ_of_lt hal
  · have e1 : its[i]? = some v := by simpa using hv
    have hlt : i < ns.length := by rw [← hlen]; exact (List.getElem?_eq_some_iff.mp e1).1
    have hz : ns[i]? = some ns[i] := List.getElem?_eq_getElem hlt
    obtain ⟨u, hu, ru⟩ := rv.get (x := V.int ns[i]) (by rw [List.getElem?_map, hz]; rfl)
    rw [e1] at hu
    cases hu
    obtain ⟨t, rfl⟩ := ru
    exact ⟨t, by simp [hz]⟩
  · have hk : ∀ b o, s.heap.get? b = some o → s'.heap.get? b = some o := fun b o e =>
      hm.heap b o (fun hI => absurd (Heap.lt_size e) (by rw [List.mem_singleton.mp hI]; exact Nat.lt_irrefl _)) (Heap.get?_push_of_some _ e)
    rw [Moved.eq_with hm]
    have e : preSum (fun i => ns.getD i 0) its.toArray.size = ns.sum := by
      rw [List.size_toArray, hlen, preSum_ints ns _ (Nat.le_refl _), List.take_length]
    rw [e]
    exact ⟨.int _, H, I.kept (t' := s'.toks) hk, ⟨_, rfl⟩, q⟩
end
def sumTD : List D → Option D
  | [.tup ds] => (D.ints ds).map fun ns => .int ns.sum
  | _ => none
theorem c_sumT {K : PySem.W.Frag} : CbD K (fun vs H Q => ∃ (a : Addr) (ns : List Int), vs = [V.ref a] ∧ SqT K H a (ns.map V.int) ∧ Q (.int ns.sum) H) sumTD := fun {c os ρ μ σ H vs ds d Q} r p e q => by
  unfold sumTD at e
  split at e
  · obtain ⟨ns, e1, e2⟩ := Option.map_eq_some_iff.mp e
    subst e2
    have z := D.ints_eq e1
    subst z
    obtain ⟨v, z, pv⟩ := p.one
    subst z
    obtain ⟨a, us, z, g1, g2⟩ := pv.inv_tup
    subst z
    have z := g2.ints
    subst z
    exact ⟨a, ns, rfl, vw_le.sqT g1, VOk.same q r (.int _)⟩
  · cases e
def sumA : List D → Option D
  | [.lst ds] => (D.ints ds).map fun ns => .int ns.sum
  | [.tup ds] => (D.ints ds).map fun ns => .int ns.sum
  | _ => none
theorem c_sumA {K : PySem.W.Frag} : CbD K (fun vs H Q => rSum K vs H Q ∨ ∃ (a : Addr) (ns : List Int), vs = [V.ref a] ∧ SqT K H a (ns.map V.int) ∧ Q (.int ns.sum) H) sumA := c_sum.or c_sumT fun x z e => by
  unfold sumA at e
  split at e
  · exact .inl e
  · exact .inr e
  · cases e
/-! ### sorted of lists of ints, dicts with int keys, dicts with keys of two ints -/
def insP (x : Int × Int) : List (Int × Int) → List (Int × Int)
  | [] => [x]
  | y :: r => if SrtO.lexB y x then y :: insP x r else x :: y :: r
def sortP : List (Int × Int) → List (Int × Int)
  | [] => []
  | x :: r => insP x (sortP r)
theorem insP_perm (x : Int × Int) : ∀ l : List (Int × Int), (insP x l).Perm (x :: l)
  | [] => .refl _
  | y :: r => by
    unfold insP
    split
    · exact ((insP_perm x r).cons y).trans (.swap x y r)
    · exact .refl _
theorem sortP_perm : ∀ l : List (Int × Int), (sortP l).Perm l
  | [] => .refl _
  | x :: r => (insP_perm x _).trans ((sortP_perm r).cons x)
theorem lexB_total {a b : Int × Int} (h : SrtO.lexB a b = false) (h' : SrtO.lexB b a = false) : a = b := by
  have h1 := SrtO.lexB_no.mp h
  have h2 := SrtO.lexB_no.mp h'
  obtain ⟨a1, a2⟩ := a
  obtain ⟨b1, b2⟩ := b
  simp only [Prod.mk.injEq] at *
  omega
theorem lexB_tr {a b c : Int × Int} (h : SrtO.lexB b a = false) (h' : SrtO.lexB c b = false) : SrtO.lexB c a = false := by
  have h1 := SrtO.lexB_no.mp h
  have h2 := SrtO.lexB_no.mp h'
  refine SrtO.lexB_no.mpr ?_
  omega
theorem insP_sorted (x : Int × Int) : ∀ l : List (Int × Int), l.Pairwise (fun a b => SrtO.lexB b a = false) → (insP x l).Pairwise (fun a b => SrtO.lexB b a = false)
  | [], _ => by unfold insP; exact List.pairwise_singleton _ _
  | y :: r, h => by
    unfold insP
    split
    · rename_i hxy
      refine List.pairwise_cons.mpr ⟨fun z hz => ?_, insP_sorted x r (List.pairwise_cons.mp h).2⟩
      rcases List.mem_cons.mp ((insP_perm x r).mem_iff.mp hz) with e | hz
      · subst e
        refine SrtO.lexB_no.mpr ?_
        have := SrtO.lexB_iff.mp hxy
        omega
      · exact (List.pairwise_cons.mp h).1 z hz
    · rename_i hxy
      have hxy' : SrtO.lexB y x = false := by cases e : SrtO.lexB y x with | true => exact absurd e hxy | false => rfl
      refine List.pairwise_cons.mpr ⟨fun z hz => ?_, h⟩
      rcases List.mem_cons.mp hz with e | hz
      · rw [e]; exact hxy'
      · exact lexB_tr hxy' ((List.pairwise_cons.mp h).1 z hz)
theorem sortP_sorted : ∀ l : List (Int × Int), (sortP l).Pairwise (fun a b => SrtO.lexB b a = false)
  | [] => List.Pairwise.nil
  | x :: r => insP_sorted x _ (sortP_sorted r)
theorem sortedP_uniq : ∀ {l m : List (Int × Int)}, l.Perm m → l.Pairwise (fun a b => SrtO.lexB b a = false) → m.Pairwise (fun a b => SrtO.lexB b a = false) → l = m
  | [], m, h, _, _ => by rw [List.nil_perm.mp h]
  | x :: r, [], h, _, _ => by have := h.length_eq; simp at this
  | x :: r, y :: s, h, h1, h2 => by
    have a1 := List.pairwise_cons.mp h1
    have a2 := List.pairwise_cons.mp h2
    have e : x = y := by
      have m1 : x ∈ y :: s := h.mem_iff.mp (by simp)
      have m2 : y ∈ x :: r := h.mem_iff.mpr (by simp)
      rcases List.mem_cons.mp m1 with z1 | z1
      · exact z1
      · rcases List.mem_cons.mp m2 with z2 | z2
        · exact z2.symm
        · exact lexB_total (a2.1 x z1) (a1.1 y z2)
    subst e
    rw [sortedP_uniq (List.Perm.cons_inv h) a1.2 a2.2]
def keyInts : List Key → Option (List Int)
  | [] => some []
  | .inl i :: r => (keyInts r).map (i :: ·)
  | .inr _ :: _ => none
def keyPairs : List (List Key) → Option (List (Int × Int))
  | [] => some []
  | [.inl i, .inl j] :: r => (keyPairs r).map ((i, j) :: ·)
  | _ :: _ => none
theorem keyInts_eq : ∀ {ks : List Key} {ns : List Int}, keyInts ks = some ns → ks = ns.map Sum.inl
  | [], _, h => by cases h; rfl
  | .inl i :: r, _, h => by
    obtain ⟨ms, h1, h2⟩ := Option.map_eq_some_iff.mp (show (keyInts r).map (i :: ·) = some _ from h)
    subst h2
    rw [keyInts_eq h1]
    rfl
  | .inr _ :: r, _, h => by cases h
theorem keyPairs_eq : ∀ {ks : List (List Key)} {ns : List (Int × Int)}, keyPairs ks = some ns → ks = ns.map fun p => [Sum.inl p.1, Sum.inl p.2]
  | [], _, h => by cases h; rfl
  | ks :: r, ns, h => by
    unfold keyPairs at h
    split at h
    · rename_i h0; cases h0
    · rename_i i j r' h0
      cases h0
      obtain ⟨ms, h1, h2⟩ := Option.map_eq_some_iff.mp h
      subst h2
      rw [keyPairs_eq h1]
      rfl
    · cases h
def sortedDID : List D → Option D
  | [.dk ks _] => (keyInts ks).bind fun ns => if Nat.blt ns.length 64 then some (.lst ((sortI ns).map D.int)) else none
  | _ => none
def pairI (p : Int × Int) : D := .tup [.int p.1, .int p.2]
def sortedDTD : List D → Option D
  | [.dt ks _] => (keyPairs ks).map fun ns => .lst ((sortP ns).map pairI)
  | _ => none
def sortedA : List D → Option D
  | [.lst ds] => (D.ints ds).map fun ns => .lst ((sortI ns).map D.int)
  | [.dk ks _] => (keyInts ks).bind fun ns => if Nat.blt ns.length 64 then some (.lst ((sortI ns).map D.int)) else none
  | [.dt ks _] => (keyPairs ks).map fun ns => .lst ((sortP ns).map pairI)
  | _ => none
abbrev rSortedDI : List V → Hp → VK → Prop := fun xs H Q => ∃ (a : Addr) (kvs : List (Key × V)) (ks : List Int), xs = [.ref a] ∧ Rd H a (.dK kvs) ∧ kvs.map (·.1) = ks.map Sum.inl ∧ ks.length < 64 ∧
    ∀ (ys : List Int) (p : Addr), ys.Perm ks → ys.Pairwise (· ≤ ·) → H p = none → Q (.ref p) (upd H p (.lst (ys.map V.int)))
section
variable {K : PySem.W.Frag}
theorem c_sortedDI : CbF K rSortedDI sortedDID := fun {c os ρ μ σ H vs ds d Q} r p e q => by
  unfold sortedDID at e
  split at e
  · rename_i ks xs
    obtain ⟨ns, e1, e2⟩ := Option.bind_eq_some_iff.mp e
    by_cases hl : Nat.blt ns.length 64 = true
    · rw [if_pos hl] at e2
      cases e2
      obtain ⟨v, z, pv⟩ := p.one
      subst z
      obtain ⟨a, kvs, z, g1, g2, g3⟩ := pv.inv_dk
      subst z
      refine ⟨a, kvs, ns, rfl, vw_le.rd g1, by rw [← keyInts_eq e1]; exact g2, Nat.le_of_ble_eq_true hl, fun ys p h1 h2 n => ?_⟩
      have e : ys = sortI ns := sorted_uniq (h1.trans (sortI_perm ns).symm) h2 (sortI_sorted ns)
      subst e
      exact FOk.newL q r (RpA.of_ints _) n
    · rw [if_neg hl] at e2
      cases e2
  · cases e
theorem All2.rp {T : List Addr} {H Hv : Hp} (hs : ∀ t xs, H t = some (.tup xs) → Hv t = some (.tup xs)) : ∀ {ys : List V} {qs : List (Int × Int)}, All2 (fun y q => ∃ t, y = V.ref t ∧ H t = some (.tup [.int q.1, .int q.2])) ys qs → RpA K T Hv ys (qs.map pairI)
  | _, _, .nil => .nil
  | _, _, .cons h t => by
    obtain ⟨a, rfl, ha⟩ := h
    exact .cons (.tup (.inl (.inl (hs _ _ ha))) (.cons (.int _) (.cons (.int _) .nil))) (All2.rp hs t)
theorem c_sortedDT : CbF K rSortedDT sortedDTD := fun {c os ρ μ σ H vs ds d Q} r p e q => by
  unfold sortedDTD at e
  split at e
  · rename_i ks xs
    obtain ⟨ns, e1, e2⟩ := Option.map_eq_some_iff.mp e
    subst e2
    obtain ⟨v, z, pv⟩ := p.one
    subst z
    obtain ⟨a, kvs, z, g1, g2, g3⟩ := pv.inv_dt
    subst z
    refine ⟨a, kvs, ns, rfl, vw_le.rd g1, by rw [← keyPairs_eq e1]; exact g2, fun qs ys p h1 h2 h3 n => ?_⟩
    have e : qs = sortP ns := sortedP_uniq (h1.trans (sortP_perm ns).symm) h2 (sortP_sorted ns)
    subst e
    exact FOk.newL q r (All2.rp (fun t xs h => r.tupSeen h) h3) n
  · cases e
theorem c_sortedA : CbF K (fun xs H Q => rSortedI K xs H Q ∨ (rSortedDI xs H Q ∨ rSortedDT xs H Q)) sortedA := c_sortedI.or (c_sortedDI.or c_sortedDT (h := fun x => (sortedDID x).or (sortedDTD x)) fun x z e => by
    cases h : sortedDID x with
    | some w => rw [h] at e; exact .inl e
    | none => rw [h] at e; exact .inr e) fun x z e => by
  unfold sortedA at e
  split at e
  · exact .inl e
  · rename_i ks us
    have e' : sortedDID [.dk ks us] = some z := e
    refine .inr ?_
    show (sortedDID [.dk ks us]).or (sortedDTD [.dk ks us]) = some z
    rw [e']; rfl
  · rename_i ks us
    have e' : sortedDTD [.dt ks us] = some z := e
    refine .inr ?_
    show (none : Option D).or (sortedDTD [.dt ks us]) = some z
    rw [e']; rfl
  · cases e
end
/-! ### range(i, j, -1) -/
theorem jRg3 {X : Cx} {cl : Nat → Addr} {W : WX} {tg : Expr} {fs : XL} {p pos : Pos} {a b e : Expr} (hg : Gl X "range") (hm : X.mg "range" = none) (ha : PA X [a, b, e] (tL X.K cl W fs))
    (hs : starEach [a, b, e] X.env = (false, eval a X.env) :: starEach [b, e] X.env := by rfl) (hpl : (backTo pos (starEach [b, e] X.env)).any (·.1) = false := by rfl) : PI X tg (.Call (.Name "range" p) [a, b, e] [] pos) (tI X.K cl W (iRg3 fs)) := pi_imp (pi_range3 hg hm ha hs hpl) fun σ H R => by
  rintro ⟨c, os, ρ, μ, r, h⟩
  refine ⟨c, os, ρ, μ, r, (Out.bind h).imp (fun ds μ1 h1 => ?_) fun _ _ q => q⟩
  intro vs H1 r1 k pv
  split at h1
  · rename_i i j z
    by_cases hj : (rgOk i && rgOk j && decide (z = -1)) = true
    · rw [if_pos hj] at h1
      rw [Bool.and_eq_true, Bool.and_eq_true, decide_eq_true_eq] at hj
      obtain ⟨⟨hi, hj⟩, hz⟩ := hj
      subst hz
      cases pv with
      | cons q1 pv =>
        cases pv with
        | cons q2 pv =>
          cases pv with
          | cons q3 pv =>
            cases pv
            refine ⟨i, j, -1, (i - j).toNat, by rw [q1.inv_int, q2.inv_int, q3.inv_int], RgC.neg (rgOk_of hi).1 (rgOk_of hi).2 (rgOk_of hj).1 (rgOk_of hj).2, h1 _ H1 r1 k ⟨fun _ => True, fun _ _ => trivial, ?_⟩⟩
            rw [rangeC_len]
            exact walk_rangeC.mono (fun _ h => h) fun i H x H' hi _ y => ⟨_, rangeC_get hi, .inl ⟨y.1, by rw [y.2]; exact .int _⟩⟩
    · rw [if_neg hj] at h1
      exact h1.elim
  · exact h1.elim
end DC
set_option Elab.async false
set_option linter.all false
set_option maxRecDepth 100000
set_option maxHeartbeats 2000000
/-! DC: chains of three comparisons. -/
namespace DC
open PySem PySem.Spec PyProof.Rows L2
def tChain3 (r r' r'' : R2) (ta tb tc td : TE) : TE := fun σ H Q => ta σ H fun x H1 => tb σ H1 fun y H2 => r x y H2 fun z H3 => ∃ k, z = .bl k ∧
  (if k = true then tc σ H3 fun u H4 => r' y u H4 fun z2 H5 => ∃ k2, z2 = .bl k2 ∧ (if k2 = true then td σ H5 fun w' H6 => r'' u w' H6 Q else Q (.bl false) H5) else Q (.bl false) H3)
def xChain3 (g g' g'' : D → D → Option D) (f1 f2 f3 f4 : XD) : XD := fun ρ μ => (f1 ρ μ).bind fun a μ1 => (f2 ρ μ1).bind fun b μ2 => (Res.ofO ((g a b).bind asB) μ2).bind fun k μ2 =>
  if k then (f3 ρ μ2).bind fun c μ3 => (Res.ofO ((g' b c).bind asB) μ3).bind fun k2 μ3 => if k2 then (f4 ρ μ3).bind fun d μ4 => Res.ofO (g'' c d) μ4 else .ok (.bl false) μ3 else .ok (.bl false) μ2
section
variable {X : Cx} {cl : Nat → Addr} {W : WX} {a b c d : Expr} {f1 f2 f3 f4 : XD} {pos : Pos} {ta tb tc td : TE}
theorem pe_chain3 {op op' op'' : CmpOp} {r r' r'' : R2} (ho : OpR X (compareOp op) r) (ho' : OpR X (compareOp op') r') (ho'' : OpR X (compareOp op'') r'') (ha : PE X a ta) (hb : PE X b tb) (hc : PE X c tc) (hd : PE X d td)
    (hm : lastMarks [op, op', op''] [b, c, d] = false := by with_unfolding_all rfl) : PE X (.Compare a [op, op', op''] [b, c, d] pos) (tChain3 r r' r'' ta tb tc td) := by
  refine ⟨fun pins s σ H Q I h => ?_⟩
  refine Compare_chain (thn (ha.run pins s σ H _ I h) fun v s1 ⟨x, H1, I1, r1, q1⟩ => chain_link (thn (hb.run pins s1 σ H1 _ I1 q1) fun u s2 ⟨y, H2, I2, r2, q2⟩ =>
    thn (ho pins s2 σ H2 x y v u _ I2 r1 r2 q2) fun d s3 ⟨z, H3, I3, r3, k, e, q3⟩ => ?_)) hm
  subst e
  cases r3
  refine wpAny_truthy_bool ?_
  cases k with
  | false => exact ite_ff ⟨.bl false, H3, I3, rfl, q3⟩
  | true =>
    refine ite_tt (chain_link (thn (hc.run pins s3 σ H3 _ I3 q3) fun u2 s4 ⟨y2, H4, I4, r4, q4⟩ => thn (ho' pins s4 σ H4 y y2 u u2 _ I4 r2 r4 q4) fun d2 s5 ⟨z2, H5, I5, r5, k2, e2, q5⟩ => ?_))
    subst e2
    cases r5
    refine wpAny_truthy_bool ?_
    cases k2 with
    | false => exact ite_ff ⟨.bl false, H5, I5, rfl, q5⟩
    | true => exact ite_tt (chain_last (thn (hd.run pins s5 σ H5 _ I5 q5) fun w' s6 ⟨z', H6, I6, r6, q6⟩ => ho'' pins s6 σ H6 y2 z' u2 w' Q I6 r4 r6 q6))
theorem pt_chain3 {op op' op'' : CmpOp} {r r' r'' : R2} (ho : OpR X (compareOp op) r) (ho' : OpR X (compareOp op') r') (ho'' : OpR X (compareOp op'') r'') (ha : PE X a ta) (hb : PE X b tb) (hc : PE X c tc) (hd : PE X d td)
    (hm : lastMarks [op, op', op''] [b, c, d] = false := by with_unfolding_all rfl) : PT X (.Compare a [op, op', op''] [b, c, d] pos) (tTest (tChain3 r r' r'' ta tb tc td)) := by
  refine ⟨fun pins s σ H Q I h => ?_⟩
  refine isTrue_chain (thn (ha.run pins s σ H _ I h) fun v s1 ⟨x, H1, I1, r1, q1⟩ => test_link (thn (hb.run pins s1 σ H1 _ I1 q1) fun u s2 ⟨y, H2, I2, r2, q2⟩ =>
    thn (ho pins s2 σ H2 x y v u _ I2 r1 r2 q2) fun d s3 ⟨z, H3, I3, r3, k, e, q3⟩ => ?_)) hm
  subst e
  cases r3
  refine wpAny_truthy_bool ?_
  cases k with
  | false =>
    obtain ⟨k', e', q'⟩ := q3
    cases e'
    exact ite_ff ⟨H3, I3, q'⟩
  | true =>
    refine ite_tt (test_link (thn (hc.run pins s3 σ H3 _ I3 q3) fun u2 s4 ⟨y2, H4, I4, r4, q4⟩ => thn (ho' pins s4 σ H4 y y2 u u2 _ I4 r2 r4 q4) fun d2 s5 ⟨z2, H5, I5, r5, k2, e2, q5⟩ => ?_))
    subst e2
    cases r5
    refine wpAny_truthy_bool ?_
    cases k2 with
    | false =>
      obtain ⟨k', e', q'⟩ := q5
      cases e'
      exact ite_ff ⟨H5, I5, q'⟩
    | true =>
      refine ite_tt (test_last (thn (hd.run pins s5 σ H5 _ I5 q5) fun w' s6 ⟨z', H6, I6, r6, q6⟩ => thn (ho'' pins s6 σ H6 y2 z' u2 w' _ I6 r4 r6 q6) fun d' s7 ⟨z7, H7, I7, r7, k3, e3, q7⟩ => ?_))
      subst e3
      cases r7
      exact wpAny_truthy_bool ⟨H7, I7, q7⟩
theorem chain3_imp {r r' r'' : R2} {g g' g'' : D → D → Option D} (hs : Op2 X.K r g) (hs' : Op2 X.K r' g') (hs'' : Op2 X.K r'' g'') (σ : L2.St) (H : Hp) (Q : VK) (h : tE X.K cl W (xChain3 g g' g'' f1 f2 f3 f4) σ H Q) : tChain3 r r' r'' (tE X.K cl W f1) (tE X.K cl W f2) (tE X.K cl W f3) (tE X.K cl W f4) σ H Q := by
  obtain ⟨c, os, ρ, μ, r, h⟩ := h
  refine ⟨c, os, ρ, μ, r, (Out.bind h).imp (fun d1 μ1 h1 => ?_) fun _ _ q => q⟩
  intro v1 H1 r1 e1 p1
  refine ⟨c, os, ρ, μ1, r1, (Out.bind h1).imp (fun d2 μ2 h2 => ?_) fun _ _ q => q.mono e1⟩
  intro v2 H2 r2 e2 p2
  obtain ⟨k, e, h3⟩ := Out.ofO (Out.bind h2)
  obtain ⟨dk, ek, ek'⟩ := Option.bind_eq_some_iff.mp e
  refine hs r2 (p1.mono e2.vw) p2 ek (fun v3 H3 r3 e3 p3 => ?_)
  cases dk with
  | bl kk =>
    have z := p3.inv_bl
    subst z
    cases ek'
    refine ⟨k, rfl, ?_⟩
    have E3 := (e1.trans e2).trans e3
    cases k with
    | true =>
      rw [if_pos rfl]
      rw [if_pos rfl] at h3
      refine ⟨c, os, ρ, μ2, r3, (Out.bind h3).imp (fun d4 μ4 h4 => ?_) fun _ _ q => q.mono E3⟩
      intro v4 H4 r4 e4 p4
      obtain ⟨k2, e', h5⟩ := Out.ofO (Out.bind h4)
      obtain ⟨dk2, ek2, ek2'⟩ := Option.bind_eq_some_iff.mp e'
      refine hs' r4 (p2.mono (e3.trans e4).vw) p4 ek2 (fun v5 H5 r5 e5 p5 => ?_)
      cases dk2 with
      | bl kk2 =>
        have z := p5.inv_bl
        subst z
        cases ek2'
        refine ⟨k2, rfl, ?_⟩
        have E5 := (E3.trans e4).trans e5
        cases k2 with
        | true =>
          rw [if_pos rfl]
          rw [if_pos rfl] at h5
          refine ⟨c, os, ρ, μ4, r5, (Out.bind h5).imp (fun d6 μ6 h6 => ?_) fun _ _ q => q.mono E5⟩
          intro v6 H6 r6 e6 p6
          obtain ⟨d, e'', h7⟩ := Out.ofO h6
          exact hs'' r6 (p4.mono (e5.trans e6).vw) p6 e'' (VOk.mono (E5.trans e6) h7)
        | false =>
          rw [if_neg Bool.false_ne_true]
          rw [if_neg Bool.false_ne_true] at h5
          exact VOk.same (VOk.mono E5 h5) r5 (.bl false)
      | _ => cases ek2'
    | false =>
      rw [if_neg Bool.false_ne_true]
      rw [if_neg Bool.false_ne_true] at h3
      exact VOk.same (VOk.mono E3 h3) r3 (.bl false)
  | _ => cases ek'
theorem dChain3 {op op' op'' : CmpOp} {r r' r'' : R2} {g g' g'' : D → D → Option D} (ho : OpR X (compareOp op) r) (hs : Op2 X.K r g) (ho' : OpR X (compareOp op') r') (hs' : Op2 X.K r' g') (ho'' : OpR X (compareOp op'') r'') (hs'' : Op2 X.K r'' g'') (ha : PE X a (tE X.K cl W f1)) (hb : PE X b (tE X.K cl W f2)) (hc : PE X c (tE X.K cl W f3)) (hd : PE X d (tE X.K cl W f4))
    (hm : lastMarks [op, op', op''] [b, c, d] = false := by with_unfolding_all rfl) : PE X (.Compare a [op, op', op''] [b, c, d] pos) (tE X.K cl W (xChain3 g g' g'' f1 f2 f3 f4)) := pe_imp (pe_chain3 ho ho' ho'' ha hb hc hd hm) (chain3_imp hs hs' hs'')
theorem bChain3 {op op' op'' : CmpOp} {r r' r'' : R2} {g g' g'' : D → D → Option D} (ho : OpR X (compareOp op) r) (hs : Op2 X.K r g) (ho' : OpR X (compareOp op') r') (hs' : Op2 X.K r' g') (ho'' : OpR X (compareOp op'') r'') (hs'' : Op2 X.K r'' g'') (ha : PE X a (tE X.K cl W f1)) (hb : PE X b (tE X.K cl W f2)) (hc : PE X c (tE X.K cl W f3)) (hd : PE X d (tE X.K cl W f4))
    (hm : lastMarks [op, op', op''] [b, c, d] = false := by with_unfolding_all rfl) : PT X (.Compare a [op, op', op''] [b, c, d] pos) (tT X.K cl W (bVal (xChain3 g g' g'' f1 f2 f3 f4))) := pt_imp (pt_chain3 ho ho' ho'' ha hb hc hd hm) (val_imp (chain3_imp hs hs' hs''))
end
end DC
set_option Elab.async false
set_option linter.all false
set_option maxRecDepth 100000
set_option maxHeartbeats 2000000
/-! DC: own lists read, values to several names, what bears nothing. -/
namespace DC
open PySem PySem.Spec PyProof.Rows L2
/-- x[k], x perhaps an own list -/
def xIxO (i : Nat) (f2 : XD) : XD := fun ρ μ => match ρ[i]? with
  | some (.ow (.lst xs)) => (f2 ρ μ).bind fun b μ2 => match b with
    | .int k => Res.ofO (atI xs k) μ2
    | _ => .fail
  | _ => xIx (xVar i) f2 ρ μ
/-- the value to a target of several names -/
def sAsgG (f : XD) (g : Tg) : SD := fun ρ μ => (f ρ μ).st ρ fun d μ' => match g d ρ with
  | some ρ' => .nx ρ' μ'
  | none => .fail
section
variable {X : Cx} {cl : Nat → Addr} {W : WX} {fr : Bool} {f f2 : XD} {a b : Expr} {pos : Pos} {s0 : Stmt} {is : List Nat} {g : Tg}
theorem pe_orE {e : Expr} {t t' : TE} (h : PE X e t) (h' : PE X e t') : PE X e (fun σ H Q => t σ H Q ∨ t' σ H Q) := ⟨fun pins s σ H Q I q => q.elim (h.run pins s σ H Q I) (h'.run pins s σ H Q I)⟩
theorem ix_lstO (d1 : List D) {c : Ct} {os : List (Option Addr)} {ρ : Env} {μ : Store} {σ : L2.St} {H : Hp} {i : Nat} {k : Int} {d : D} (r : Rl X.K c os ρ μ σ H) (e0 : ρ[i]? = some (.ow (.lst d1))) (e : atI d1 k = some d) : ∃ p xs v, σ[i]? = some (some (.ref p)) ∧ H p = some (.lst xs) ∧ atI xs k = some v ∧ Rp X.K c.T (vw c os H) v d := by
  obtain ⟨p, g1, g2, g3⟩ := r.getOw e0
  cases g3 with
  | lst q kr =>
    obtain ⟨v, h1, h2⟩ := kr.atI e
    exact ⟨p, _, v, g1, q, h1, h2⟩
theorem dIxO {i : Nat} {x : Str} {p : Pos} (hv : PE X (.Name x p) (tVar i)) (hb : PE X b (tE X.K cl W f2)) (hs : PlainIx b) : PE X (.Subscript (.Name x p) b pos) (tE X.K cl W (xIxO i f2)) :=
  pe_imp (pe_orE (pe_ix ix_seq hv hb hs) (dIx (cl := cl) (W := W) (dVar hv) hb hs)) fun σ H Q => by
  rintro ⟨c, os, ρ, μ, r, h⟩
  unfold xIxO at h
  split at h
  · rename_i xs e0
    refine .inl ?_
    obtain ⟨p, g1, g2, g3⟩ := r.getOw e0
    refine ⟨.ref p, g1, c, os, ρ, μ, r, (Out.bind h).imp (fun d2 μ2 h2 => ?_) fun _ _ q => q⟩
    intro v2 H2 r2 e2 p2
    cases d2 with
    | int k =>
      obtain ⟨d, e, h3⟩ := Out.ofO h2
      obtain ⟨p', ys, v, q1, q2, q3, q4⟩ := ix_lstO xs r2 e0 e
      have ea : p' = p := by
        rw [g1] at q1
        have := Option.some.inj (Option.some.inj q1)
        cases this; rfl
      subst ea
      exact .inl ⟨p', ys, k, v, rfl, p2.inv_int, .inl (.inl q2), q3, VOk.same (VOk.mono e2 h3) r2 q4⟩
    | _ => exact h2.elim
  · exact .inr ⟨c, os, ρ, μ, r, h⟩
theorem hAsgG (h : PS X s0 (tAsg (tE X.K cl W f) (tG X.K is g))) : PS X s0 (tS X.K cl W fr (sAsgG f g)) := ps_imp h fun E σ H => by
  rintro ⟨c, os, ρ, μ, r, h⟩
  refine ⟨c, os, ρ, μ, r, (SOut.st h).imp (fun d μ1 h1 => ?_) fun _ _ q => q⟩
  intro v1 H1 r1 e1 p1
  split at h1
  · rename_i ρ' eg
    exact ⟨c, os, ρ, μ1, d, ρ', r1, p1, eg, fun os' σ' r' _ => h1 os' σ' H1 r'⟩
  · exact h1.elim
end
/-! ### what bears nothing -/
theorem pl_bind {α β : Type} {f : Env → Store → Res α} {k : Env → α → Env → Store → Res β} (hf : Plain f) (hk : ∀ ρ a, Plain (k ρ a)) : Plain fun ρ μ => (f ρ μ).bind fun a μ1 => k ρ a ρ μ1 := fun ρ μ x μ' h => by
  have h' : (f ρ μ).bind (fun a μ1 => k ρ a ρ μ1) = .exc x μ' := h
  cases e : f ρ μ with
  | fail => rw [e] at h'; cases h'
  | exc y μ1 =>
    rw [e] at h'
    cases h'
    exact hf _ _ _ _ e
  | ok a μ1 =>
    rw [e] at h'
    exact hk ρ a ρ μ1 x μ' h'
theorem pl_ofO {α : Type} {o : Option α} : Plain fun _ μ => Res.ofO o μ := fun ρ μ x μ' h => by
  cases o <;> cases h
theorem pl_ok {α : Type} {a : α} : Plain fun _ μ => Res.ok a μ := fun ρ μ x μ' h => by cases h
theorem pl_fail {α : Type} : Plain fun _ _ => (Res.fail : Res α) := fun ρ μ x μ' h => by cases h
theorem pl_ite {α : Type} {c : Prop} [Decidable c] {f g : Env → Store → Res α} (hf : Plain f) (hg : Plain g) : Plain fun ρ μ => if c then f ρ μ else g ρ μ := fun ρ μ x μ' h => by
  have h' : (if c then f ρ μ else g ρ μ) = .exc x μ' := h
  split at h'
  · exact hf _ _ _ _ h'
  · exact hg _ _ _ _ h'
theorem pl_C (d : D) : Plain (xC d) := pl_ok
theorem pl_Var (i : Nat) : Plain (xVar i) := fun ρ μ x μ' h => by
  unfold xVar at h
  split at h <;> cases h
theorem pl_Bin {g : D → D → Option D} {f1 f2 : XD} (h1 : Plain f1) (h2 : Plain f2) : Plain (xBin g f1 f2) :=
  pl_bind (k := fun _ a ρ μ1 => (f2 ρ μ1).bind fun b μ2 => Res.ofO (g a b) μ2) h1 fun _ a => pl_bind (k := fun _ b _ μ2 => Res.ofO (g a b) μ2) h2 fun _ _ => pl_ofO
theorem pl_Un {g : D → Option D} {f : XD} (h1 : Plain f) : Plain (xUn g f) := pl_bind (k := fun _ a _ μ1 => Res.ofO (g a) μ1) h1 fun _ _ => pl_ofO
theorem pl_lNil : Plain lNil := pl_ok
theorem pl_lCons {f : XD} {fs : XL} (h1 : Plain f) (h2 : Plain fs) : Plain (lCons f fs) :=
  pl_bind (k := fun _ d ρ μ1 => (fs ρ μ1).bind fun ds μ2 => .ok (d :: ds) μ2) h1 fun _ d => pl_bind (k := fun _ ds _ μ2 => .ok (d :: ds) μ2) h2 fun _ _ => pl_ok
theorem pl_Lst {fs : XL} (h : Plain fs) : Plain (xLst fs) := pl_bind (k := fun _ ds _ μ1 => if lenOk ds then Res.ok (D.lst ds) μ1 else Res.fail) h fun _ ds => pl_ite pl_ok pl_fail
theorem pl_Tup {fs : XL} (h : Plain fs) : Plain (xTup fs) := pl_bind (k := fun _ ds _ μ1 => if lenOk ds then Res.ok (D.tup ds) μ1 else Res.fail) h fun _ ds => pl_ite pl_ok pl_fail
theorem pl_NewK : Plain xNewK := pl_ok
theorem pl_NewT : Plain xNewT := pl_ok
theorem pl_Disp1 {k : Key} {d : D} : Plain (xDisp1 k d) := pl_ok
theorem pl_mNil : Plain mNil := pl_ok
theorem pl_mVal {f : XD} {fs : XM} (h1 : Plain f) (h2 : Plain fs) : Plain (mVal f fs) :=
  pl_bind (k := fun _ d ρ μ1 => (fs ρ μ1).bind fun ds μ2 => .ok ((false, d) :: ds) μ2) h1 fun _ d => pl_bind (k := fun _ ds _ μ2 => .ok ((false, d) :: ds) μ2) h2 fun _ _ => pl_ok
theorem pl_mNew {f : XD} {fs : XM} (h1 : Plain f) (h2 : Plain fs) : Plain (mNew f fs) :=
  pl_bind (k := fun _ d ρ μ1 => (fs ρ μ1).bind fun ds μ2 => .ok ((true, d) :: ds) μ2) h1 fun _ d => pl_bind (k := fun _ ds _ μ2 => .ok ((true, d) :: ds) μ2) h2 fun _ _ => pl_ok
theorem pl_Cb {g : List D → Option D} {fs : XL} (h : Plain fs) : Plain (xCb g fs) := pl_bind (k := fun _ ds _ μ1 => Res.ofO (g ds) μ1) h fun _ _ => pl_ofO
theorem pl_Ix {f1 f2 : XD} (h1 : Plain f1) (h2 : Plain f2) : Plain (xIx f1 f2) :=
  pl_bind (k := fun _ a ρ μ1 => (f2 ρ μ1).bind fun b μ2 => Res.ofO (ixS μ2 a b) μ2) h1 fun _ a => pl_bind (k := fun _ b _ μ2 => Res.ofO (ixS μ2 a b) μ2) h2 fun _ b => fun ρ μ x μ' e => pl_ofO (o := ixS μ a b) ρ μ x μ' e
theorem pl_GetK {f1 f2 : XD} (h1 : Plain f1) (h2 : Plain f2) : Plain (xGetK f1 f2) :=
  pl_bind (k := fun _ a ρ μ1 => (f2 ρ μ1).bind fun b μ2 => Res.ofO (getK a b) μ2) h1 fun _ a => pl_bind (k := fun _ b _ μ2 => Res.ofO (getK a b) μ2) h2 fun _ b => pl_ofO
theorem pl_Get2K {f1 f2 f3 : XD} (h1 : Plain f1) (h2 : Plain f2) (h3 : Plain f3) : Plain (xGet2K f1 f2 f3) := fun ρ μ x μ' h => by
  unfold xGet2K at h
  cases e : f1 ρ μ with
  | fail => rw [e] at h; cases h
  | exc y μ1 => rw [e] at h; cases h; exact h1 _ _ _ _ e
  | ok a μ1 =>
    rw [e] at h
    cases a with
    | dk ks vs => exact pl_bind (k := fun _ b ρ μ2 => (f3 ρ μ2).bind fun x μ3 => Res.ofO (get2K (D.dk ks vs) b x) μ3) h2 (fun _ b => pl_bind (k := fun _ x _ μ3 => Res.ofO (get2K (D.dk ks vs) b x) μ3) h3 fun _ _ => pl_ofO) ρ μ1 x μ' h
    | _ => cases h
theorem pl_GetT {f1 : XD} {fs : XL} (h1 : Plain f1) (h2 : Plain fs) : Plain (xGetT f1 fs) :=
  pl_bind (k := fun _ a ρ μ1 => (fs ρ μ1).bind fun bs μ2 => if lenOk bs then Res.ofO (getT a bs) μ2 else .fail) h1 fun _ a => pl_bind (k := fun _ bs _ μ2 => if lenOk bs then Res.ofO (getT a bs) μ2 else .fail) h2 fun _ bs => pl_ite pl_ofO pl_fail
theorem pl_Get2T {f1 f3 : XD} {fs : XL} (h1 : Plain f1) (h2 : Plain fs) (h3 : Plain f3) : Plain (xGet2T f1 fs f3) := fun ρ μ x μ' h => by
  unfold xGet2T at h
  cases e : f1 ρ μ with
  | fail => rw [e] at h; cases h
  | exc y μ1 => rw [e] at h; cases h; exact h1 _ _ _ _ e
  | ok a μ1 =>
    rw [e] at h
    cases a with
    | dt ks vs => exact pl_bind (k := fun _ bs ρ μ2 => if lenOk bs then (f3 ρ μ2).bind fun x μ3 => Res.ofO (get2T (D.dt ks vs) bs x) μ3 else Res.fail) h2 (fun _ bs => pl_ite (pl_bind (k := fun _ x _ μ3 => Res.ofO (get2T (D.dt ks vs) bs x) μ3) h3 fun _ _ => pl_ofO) pl_fail) ρ μ1 x μ' h
    | _ => cases h
/-! ### a def at no fuel -/
theorem ok0 {P : Program} {w : World} {K : PySem.W.Frag} {mg : Str → Option Value} {base : Heap} {cl : Nat → Addr} {x qual : Str} {st : Stmt} {f : Addr} {fd : FuncData} {N ps : List Str} {k : Nat} (F : Fun K x qual st f fd) (S : FnScope N ps (defScope st)) :
    FnOk P w K mg base (L2.CX P w) (k + 1) f fd ps (SpD K cl ps.length fun _ _ => .fail) :=
  F.okX S (fun vs H Q E h => by obtain ⟨A, T, μ, ds, r, p, hl, h⟩ := h; exact h.elim) fun cdv A outer s H vs Q E hr h => by
    obtain ⟨A, T, μ, ds, r, p, hl, h⟩ := h; exact h.elim
end DC
namespace DC
open PySem PySem.Spec PyProof.Rows L2
section
variable {X : Cx} {cl : Nat → Addr} {W : WX} {fr : Bool} {s0 : Stmt} {is : List Nat} {g : Tg} {b : List Stmt} {F : SD}
theorem tE_tF {K : PySem.W.Frag} {f : XD} {σ : L2.St} {H : Hp} {Q : VK} (h : tE K cl W f σ H Q) : tF K cl W f σ H Q := by
  obtain ⟨c, os, ρ, μ, r, h⟩ := h
  exact ⟨c, os, ρ, μ, r, h.imp (fun d μ' q => q.f) fun _ _ q => q⟩
/-- x = [.. for ..], the list never changed -/
theorem hAsgLcV {i : Nat} {f : XL} {t : XB} {fe : XD} {vs : List Nat} (h : PS X s0 (tAsg (tLc (tI X.K cl W f) (tG X.K is g) (tT X.K cl W0 t) (tE X.K cl W0 fe) vs) (gName i))) (hv : ∀ i ∈ is, i ∈ vs := by decide) : PS X s0 (tS X.K cl W fr (sAsg i (xLc f g t fe vs))) :=
  hAsg (ps_imp h fun E σ H q => lc_imp hv σ H _ (tE_tF q))
theorem hSeqF (h : PSs X b (tS X.K cl W fr F)) : PSs X b (tS X.K cl W fr (sSeq F sFail)) := pss_imp h fun E σ H => by
  rintro ⟨c, os, ρ, μ, r, h⟩
  refine ⟨c, os, ρ, μ, r, ?_⟩
  unfold sSeq at h
  cases e : F ρ μ with
  | nx ρ' μ' => rw [e] at h; exact h.elim
  | rt d μ' => rw [e] at h; exact h
  | bk ρ' μ' => rw [e] at h; exact h
  | ct ρ' μ' => rw [e] at h; exact h
  | exc x ρ' μ' => rw [e] at h; exact h
  | fail => rw [e] at h; exact h
end
end DC
namespace DC
open PySem PySem.Spec PyProof.Rows L2
section
variable {P : Program} {w : World} {K : PySem.W.Frag} {mg : Str → Option Value} {base : Heap} {cl : Nat → Addr}
theorem okD2 {x qual : Str} {st : Stmt} {f : Addr} {fd : FuncData} {N ps : List Str} {k np n : Nat} (FB : SD) (F : Fun K x qual st f fd) (S : FnScope N ps (defScope st)) (h1 : ps.length = np) (h2 : N.length = n) (hn : np ≤ n)
    (hb : ∀ (cdv : Value) (A : Around) (outer : List PySem.Env) (s : Shared) (H : Hp) (E : XK), Room k (A.deeper (envOfC qual (defScope st) s.heap.objs.size f cdv)) →
      PSs (cxOf (L2.CX P w) P w K mg base N qual (defScope st) f cdv A outer s H E) (defBody st) (tS K cl (WE0 E) false FB)) : FnOk P w K mg base (L2.CX P w) (k + 1) f fd ps (SpD K cl np (bodyD FB n)) := by
  subst h1 h2
  exact okD F S hn hb
theorem okF2 {x qual : Str} {st : Stmt} {f : Addr} {fd : FuncData} {N ps : List Str} {k np n : Nat} (FB : SD) (F : Fun K x qual st f fd) (S : FnScope N ps (defScope st)) (h1 : ps.length = np) (h2 : N.length = n) (hn : np ≤ n)
    (hb : ∀ (cdv : Value) (A : Around) (outer : List PySem.Env) (s : Shared) (H : Hp) (E : XK), Room k (A.deeper (envOfC qual (defScope st) s.heap.objs.size f cdv)) →
      PSs (cxOf (L2.CX P w) P w K mg base N qual (defScope st) f cdv A outer s H E) (defBody st) (tS K cl (WE0 E) true (sSeq FB sFail))) : FnOk P w K mg base (L2.CX P w) (k + 1) f fd ps (SpF K cl np (bodyF FB n)) := by
  subst h1 h2
  exact okF F S hn hb
theorem ok02 {x qual : Str} {st : Stmt} {f : Addr} {fd : FuncData} {N ps : List Str} {k np : Nat} (F : Fun K x qual st f fd) (S : FnScope N ps (defScope st)) (h1 : ps.length = np) :
    FnOk P w K mg base (L2.CX P w) (k + 1) f fd ps (SpD K cl np fun _ _ => .fail) := by
  subst h1
  exact ok0 F S
end
end DC
namespace DC
open PySem PySem.Spec PyProof.Rows L2
section
variable {X : Cx}
theorem call_sumA (hc : X.calm = true) : CallR X (.builtin "sum") (fun vs H Q => rSum X.K vs H Q ∨ ∃ (a : Addr) (ns : List Int), vs = [V.ref a] ∧ SqT X.K H a (ns.map V.int) ∧ Q (.int ns.sum) H) := L2.CallR.or (cr_sum hc) (call_sumT hc)
theorem call_sortA (hc : X.calm = true) : CallR X (.builtin "sorted") (fun xs H Q => rSortedI X.K xs H Q ∨ (rSortedDI xs H Q ∨ rSortedDT xs H Q)) := L2.CallR.or cr_sortedI (L2.CallR.or (call_sortedDI hc) (call_sortedDT hc))
end
end DC
set_option Elab.async false
set_option linter.all false
set_option maxRecDepth 100000
set_option maxHeartbeats 2000000
/-! DC: while with its own count, tuples of the module, sorted sets. -/
namespace DC
open PySem PySem.Spec PyProof.Rows L2
/-! ### while, the turns counted from the slots -/
def fuelI (i : Nat) : Env → Store → Nat := fun ρ _ => match ρ[i]? with
  | some (.fz (.int z)) => z.natAbs + 1
  | _ => 0
def sWhileV (fu : Env → Store → Nat) (t : XB) (F : SD) : SD := fun ρ μ => sWhile (fu ρ μ) t F ρ μ
section
variable {X : Cx} {cl : Nat → Addr} {W : WX} {fr : Bool} {t : XB} {F : SD} {body : List Stmt} {pos : Pos}
theorem hWhileV (fu : Env → Store → Nat) {c : Expr} (hp : PassesOwn (model X.prog X.w) X.A X.env X.xe) (hc : PT X c (tT X.K cl W t)) (hb : PSs X body (tS X.K cl W fr F)) : PS X (.While c body [] pos) (tS X.K cl W fr (sWhileV fu t F)) :=
  ⟨fun pins s σ H E I q => by
    obtain ⟨c, os, ρ, μ, r, h⟩ := q
    exact (hWhile (fu ρ μ) hp hc hb).run pins s σ H E I ⟨c, os, ρ, μ, r, h⟩⟩
end
/-! ### a tuple of ints of the module -/
theorem rp_tup2 {K : PySem.W.Frag} {a : Addr} {d : Option Addr} {x y : Int} {t u : Tok} {n : Nat} {sl : Array (Option Value)} (h : K.lookup a = some ⟨.type "tuple", d, .seq #[.int x t, .int y u] n, sl⟩) : ∀ T Hv, Rp K T Hv (.ref a) (.tup [.int x, .int y]) := fun T Hv =>
  .tup (xs := [.int x, .int y]) (.inr ⟨_, _, _, h, rfl, rfl, by rw [sizeLine_eq]; show 2 ≤ _; decide, .cons (show RelV (.int x) (.int x t) from ⟨t, rfl⟩) (.cons (show RelV (.int y) (.int y u) from ⟨u, rfl⟩) .nil)⟩) (.cons (.int x) (.cons (.int y) .nil))
/-! ### sorted(set(xs)) of ints -/
def insU (x : Int) : List Int → List Int
  | [] => [x]
  | y :: r => if x < y then x :: y :: r else if x = y then y :: r else y :: insU x r
def sortU : List Int → List Int
  | [] => []
  | x :: r => insU x (sortU r)
theorem insU_mem (x k : Int) : ∀ l : List Int, k ∈ insU x l ↔ k = x ∨ k ∈ l
  | [] => by simp [insU]
  | y :: r => by
    unfold insU
    split
    · simp
    · split
      · rename_i h1 h2
        subst h2
        simp
      · rw [List.mem_cons, insU_mem x k r, List.mem_cons]
        constructor
        · rintro (h | h | h)
          · exact .inr (.inl h)
          · exact .inl h
          · exact .inr (.inr h)
        · rintro (h | h | h)
          · exact .inr (.inl h)
          · exact .inl h
          · exact .inr (.inr h)
theorem sortU_mem (k : Int) : ∀ l : List Int, k ∈ sortU l ↔ k ∈ l
  | [] => Iff.rfl
  | x :: r => by
    unfold sortU
    rw [insU_mem, sortU_mem k r, List.mem_cons]
theorem insU_asc (x : Int) : ∀ l : List Int, l.Pairwise (· < ·) → (insU x l).Pairwise (· < ·)
  | [], _ => by unfold insU; exact List.pairwise_singleton _ _
  | y :: r, h => by
    have h1 := List.pairwise_cons.mp h
    unfold insU
    split
    · rename_i hx
      refine List.pairwise_cons.mpr ⟨fun z hz => ?_, h⟩
      rcases List.mem_cons.mp hz with e | hz
      · rw [e]; exact hx
      · have := h1.1 z hz; omega
    · split
      · exact h
      · refine List.pairwise_cons.mpr ⟨fun z hz => ?_, insU_asc x r h1.2⟩
        rcases (insU_mem x z r).mp hz with e | hz
        · omega
        · exact h1.1 z hz
theorem sortU_asc : ∀ l : List Int, (sortU l).Pairwise (· < ·)
  | [] => List.Pairwise.nil
  | x :: r => insU_asc x _ (sortU_asc r)
theorem asc_uniq : ∀ {l m : List Int}, (∀ k, k ∈ l ↔ k ∈ m) → l.Pairwise (· < ·) → m.Pairwise (· < ·) → l = m
  | [], [], _, _, _ => rfl
  | [], y :: s, h, _, _ => by have := (h y).mpr (by simp); cases this
  | x :: r, [], h, _, _ => by have := (h x).mp (by simp); cases this
  | x :: r, y :: s, h, h1, h2 => by
    have a1 := List.pairwise_cons.mp h1
    have a2 := List.pairwise_cons.mp h2
    have e : x = y := by
      have m1 : x ∈ y :: s := (h x).mp (by simp)
      have m2 : y ∈ x :: r := (h y).mpr (by simp)
      rcases List.mem_cons.mp m1 with z1 | z1
      · exact z1
      · rcases List.mem_cons.mp m2 with z2 | z2
        · exact z2.symm
        · have := a2.1 x z1
          have := a1.1 y z2
          omega
    subst e
    rw [asc_uniq (l := r) (m := s) (fun k => ?_) a1.2 a2.2]
    constructor
    · intro hk
      rcases List.mem_cons.mp ((h k).mp (List.mem_cons_of_mem _ hk)) with z | z
      · subst z; have := a1.1 _ hk; omega
      · exact z
    · intro hk
      rcases List.mem_cons.mp ((h k).mpr (List.mem_cons_of_mem _ hk)) with z | z
      · subst z; have := a2.1 _ hk; omega
      · exact z
theorem nodup_len : ∀ {l m : List Int}, l.Nodup → m.Nodup → (∀ k, k ∈ l ↔ k ∈ m) → l.length = m.length := fun {l m} h1 h2 h =>
  (List.perm_iff_count.mpr fun k => by
    rw [List.Nodup.count h1, List.Nodup.count h2]
    by_cases hk : k ∈ l
    · rw [if_pos hk, if_pos ((h k).mp hk)]
    · rw [if_neg hk, if_neg fun z => hk ((h k).mpr z)]).length_eq
section
variable {P : Program} {w : World} {A : Around} {E : Value → Shared → Prop} {s : Shared}
abbrev emptySet (w : World) : Obj := { cls := .type "set", dict := none, data := .set #[] 0 (.fresh 0 0 (!w.params.followText "set-order")) }
set_option maxRecDepth 100000 in
set_option maxHeartbeats 3200000 in
/-- set(xs), xs a list of ints -/
theorem set_of_list {l : Addr} {items : Array Value} (ns : List Int) {Q : Value → Shared → Prop} (hh : A.handled = none) (hl : s.heap.IsList l items) (hit : IntsAre items.toList ns) (hb : ns.length + 1 < scanBound)
    (h : ∀ (h' : Heap) (tk c : Nat), SetR w h' s.heap.objs.size (fun j => decide (j ∈ ns)) c → (∀ b o, s.heap.get? b = some o → h'.get? b = some o) → Q (.ref s.heap.objs.size) { s with heap := h', toks := tk }) :
    wpAny (model P w) A (call (.type "set") [.ref l]) Q E s := by
  have nItems : items.size = ns.length := (Array.length_toList ▸ IntsAre.length hit :)
  obtain ⟨c0, tl0, inMro⟩ := PySem.F.called_set.mro
  have f1 := PySem.F.called_set.made; have f2 := PySem.F.called_set.sub; have f3 := PySem.F.called_set.notType; have f4 := PySem.F.called_set.canCreate; have f5 := PySem.F.typeCall_set_1 (.ref l)
  refine wpAny_call (codeAny_of_tree (show wpAny _ _ (callAny (.type "set") _) _ _ _ from wpAny_pure ⟨Code.quiet_builtin _ (by decide +kernel), codeAny_builtin PySem.F.entry_type_call ?_⟩))
  rw [Around.under_plain (weight_type_call_type "set" [.ref l] []) rfl]
  (repeat (any_goals (first | assumption | wp_step)))
  refine codeAny_mono (code_set_led1 (.ref l) (E := E) (Q₁ := fun obj s₁ => obj = .ref s.heap.objs.size ∧ s₁ = { s with heap := s.heap.push (emptySet w) }) ⟨rfl, rfl⟩) fun r s₁ got => ?_
  rcases r with e | fl
  · exact got
  cases fl with
  | ret obj =>
    obtain ⟨rfl, rfl⟩ := got
    have newAt : (s.heap.push (emptySet w)).get? s.heap.objs.size = some (emptySet w) := Heap.get?_push_size _ rfl
    have newTy : Shared.TypeIs { s with heap := s.heap.push (emptySet w) } (.ref s.heap.objs.size) "set" := ⟨_, newAt, rfl⟩
    have g1 := PySem.F.called_set.init.lookup; have g2 := PySem.F.called_set.init.bind (.ref s.heap.objs.size)
    (repeat (any_goals (first | assumption | wp_step)))
    refine codeAny_mono (codeAny_call_builtin (R := wants (fun r s₂ => r = .none ∧ ∃ h' tk c, s₂ = { s with heap := h', toks := tk } ∧ SetR w h' s.heap.objs.size (fun j => decide (j ∈ ns)) c ∧ (∀ b o, s.heap.get? b = some o → h'.get? b = some o)) E) PySem.F.called_set.init.plain PySem.F.entry_set_init (check_set_init_1 newTy ?_)) fun r₂ s₂ got₂ => ?_
    · obtain ⟨ol, hol, ecls, nl, edat⟩ := hl
      obtain ⟨ocls, odict, odata, oslots⟩ := ol
      simp only at ecls edat
      subst ecls edat
      have there : (s.heap.push (emptySet w)).get? l = some { cls := .type "list", dict := odict, data := .seq items nl, slots := oslots } := Heap.get?_push_of_some _ hol
      have s1 := PySem.F.sub_list_set; have s2 := PySem.F.sub_list_frozenset
      have s3 : (Value.type "list" == Value.type "dict") = false := by decide
      have isL : (s.heap.push (emptySet w)).IsList l items := ⟨_, there, rfl, nl, rfl⟩
      unfold Builtin.«set.__init__» noKeywords Builtin.Frozenset.updateFrom
      generalize hPI : pyIter = PI
      wp_walk
      subst hPI
      refine wpAny_pyIter_list isL (wpAny_bind (wpAny_runValue ?_))
      have ltS : l < s.heap.objs.size := Heap.lt_size hol
      have noH : A.in1.in1.in1.handled = none := by simp [hh]
      have nI : (s.heap.push (emptySet w)).objs.size = s.heap.objs.size + 1 := Heap.size_push ..
      have neI : l ≠ (s.heap.push (emptySet w)).objs.size := fun z => absurd (z.trans nI) (Nat.ne_of_lt (Nat.lt_succ_of_lt ltS))
      have out2 : s.heap.objs.size ∉ [(s.heap.push (emptySet w)).objs.size, l] := by
        rw [List.mem_cons, List.mem_singleton, nI]
        exact fun z => z.elim (Nat.ne_of_lt (Nat.lt_succ_self _)) (Nat.ne_of_gt ltS)
      have vals : ∀ (i : Nat) (v : Value), items[i]? = some v → ∃ k t, ns[i]? = some k ∧ v = .int k t := fun i v hv => by
        have lt : i < ns.length := nItems ▸ (Array.getElem?_eq_some_iff.mp hv).1
        obtain ⟨t, e⟩ := IntsAre.int_at hit i v (Array.getElem?_toList ▸ hv)
        exact ⟨ns[i], t, List.getElem?_eq_getElem lt, by rw [e, List.getD_eq_getElem?_getD, List.getElem?_eq_getElem lt]; rfl⟩
      refine set_update_ints ((Walks.list noH _ l neI items).toS) s.heap.objs.size out2 ns nItems hb vals (items.size - 0) 0 _ (by omega) (Nat.zero_le _) ⟨⟨_, Heap.get?_push_size _ rfl, rfl, rfl⟩, (isL.push _)⟩ ⟨0, Nat.le_refl 0, setR_new_at (Heap.get?_push_of_some _ newAt)⟩ fun s' c' hm hc' hS' => ?_
      obtain ⟨h', g2, d', tk', os'⟩ := s'
      obtain ⟨e1, e2, e3⟩ : g2 = s.gens ∧ d' = s.drawn ∧ os' = s.os := ⟨hm.gens, hm.drawn, hm.os⟩
      subst e1 e2 e3
      refine wpAny_pure ?_
      show wpAny _ _ (ret Value.none) _ _ _
      refine wpAny_pure ⟨rfl, h', tk', c', rfl, hS', fun b o e => ?_⟩
      have lb : b < s.heap.objs.size := Heap.lt_size e
      refine hm.heap b o ?_ (Heap.get?_push_of_some _ (Heap.get?_push_of_some _ e))
      rw [List.mem_cons, List.mem_singleton, nI]
      exact fun z => z.elim (Nat.ne_of_lt lb) (Nat.ne_of_lt (Nat.lt_succ_of_lt lb))
    · rcases r₂ with e | fl₂
      · exact got₂
      cases fl₂ with
      | ret r =>
        obtain ⟨rfl, h', tk, c', rfl, hS', hk'⟩ := got₂
        (repeat (any_goals (first | assumption | wp_step)))
        exact h _ _ _ hS' hk'
      | _ => exact got₂.elim
  | _ => exact got.elim
end
end DC
set_option Elab.async false
set_option linter.all false
set_option maxRecDepth 4000
set_option maxHeartbeats 2000000
/-! DC: sorted(set(xs)), xs a list of ints. -/
namespace DC
open PySem PySem.Spec PyProof.Rows L2
theorem asc_nodup {l : List Int} (h : l.Pairwise (· < ·)) : l.Nodup := h.imp fun {a b} h e => by omega
def rSetL (K : PySem.W.Frag) (w : World) : List V → Hp → VK → Prop := fun xs H Q => ∃ (l : Addr) (ns : List Int), xs = [V.ref l] ∧ SqL K H l (ns.map V.int) ∧ ns.length ≤ 4000 ∧
  ∀ (a : Addr) (n : Nat), H a = none → n = (sortU ns).length → Q (.ref a) (upd H a (SetO w a (fun j => decide (j ∈ ns)) n))
section
variable {X : Cx} {cl : Nat → Addr} {W : WX} {fs : XL}
theorem cr_setL (hc : X.calm = true) : CallR X (.type "set") (rSetL X.K X.w) := by
  intro pins s σ H xs us Q I r h
  obtain ⟨l, ns, rfl, hl, hb, q⟩ := h
  rw [Vals.ref1 r]
  obtain ⟨its, rv, pl, hz⟩ := I.list hl
  have hn : H s.heap.objs.size = none := I.hok.fresh (Nat.le_refl _)
  refine set_of_list ns (I.ok.hd hc) pl.isList (by simpa using RZ.intsAre_vals rv) (by unfold scanBound; omega) fun h' tk c R k => ?_
  refine ⟨.ref s.heap.objs.size, upd H s.heap.objs.size (SetO X.w s.heap.objs.size _ c), I.laid (t' := tk) k (Nat.le_refl _) (setO_new R), rfl, q _ c hn ?_⟩
  obtain ⟨o, es, ep, t, _, _, _, _, nd, mem, _, _, hsz, _, _⟩ := R
  have h1 := nodup_len nd (asc_nodup (sortU_asc ns)) fun k => (mem k).symm.trans ((decide_eq_true_iff).trans (sortU_mem k ns).symm)
  rw [List.length_map, Array.length_toList] at h1
  omega
def sortSetD : List D → Option D
  | [.lst ds] => (D.ints ds).bind fun ns => if Nat.ble ns.length 4000 && Nat.blt (sortU ns).length 64 then some (.lst ((sortU ns).map D.int)) else none
  | _ => none
theorem dSortSet {a : Expr} {p p2 q pos : Pos} (hc : X.calm = true) (hg : Gl X "sorted") (hm : X.mg "sorted" = none) (hv : bootBuiltins "sorted" = some (.builtin "sorted")) (hg2 : Gl X "set") (hm2 : X.mg "set" = none) (hv2 : bootBuiltins "set" = some (.type "set")) (ha : PA X [a] (tL X.K cl W fs))
    (he : starEach [a] X.env = (false, eval a X.env) :: starEach [] X.env := by rfl) (hpl : (backTo q (starEach [] X.env)).any (·.1) = false := by rfl)
    (he' : starEach [.Call (.Name "set" p2) [a] [] q] X.env = (false, eval (.Call (.Name "set" p2) [a] [] q) X.env) :: starEach [] X.env := by rfl) (hpl' : (backTo pos (starEach [] X.env)).any (·.1) = false := by rfl) :
    PE X (.Call (.Name "sorted" p) [.Call (.Name "set" p2) [a] [] q] [] pos) (tF X.K cl W (xCb sortSetD fs)) :=
  pe_imp (pe_callB (cr_sortedSet hc) hg hm hv (pa_cons (pe_callTy (cr_setL hc) hg2 hm2 hv2 ha (by decide) (by decide) he hpl) pa_nil he') (by decide) (by decide) he' hpl') fun σ H Q h => by
    obtain ⟨c, os, ρ, μ, r, h⟩ := h
    refine ⟨c, os, ρ, μ, r, (Out.bind h).imp (fun ds μ1 h1 => ?_) fun _ _ q => q⟩
    intro vs H1 r1 e1 p1
    obtain ⟨d, e, q⟩ := Out.ofO h1
    unfold sortSetD at e
    split at e
    · rename_i ds
      obtain ⟨ns, e2, e3⟩ := Option.bind_eq_some_iff.mp e
      split at e3
      · rename_i hl
        cases e3
        have hl1 := Nat.le_of_ble_eq_true (Bool.and_eq_true_iff.mp hl).1
        have hl2 : (sortU ns).length < 64 := Nat.le_of_ble_eq_true (Bool.and_eq_true_iff.mp hl).2
        have z := D.ints_eq e2
        subst z
        obtain ⟨v, z, pv⟩ := p1.one
        subst z
        obtain ⟨l, xs, z, g1, g2⟩ := pv.inv_lst
        subst z
        have z := g2.ints
        subst z
        refine ⟨l, ns, rfl, SqL.of (vw_le _ _ g1), hl1, fun a n hn en => ?_⟩
        refine ⟨a, _, n, rfl, upd_same, by omega, fun us p2 hs hmem hlen hp => ?_⟩
        have eu : us = sortU ns := asc_uniq (fun k => (hmem k).trans ((decide_eq_true_iff).trans (sortU_mem k ns).symm)) hs (sortU_asc ns)
        subst eu
        exact FOk.newL ((q.mono e1).mono (Kp.new hn)) (r1.new hn) (RpA.of_ints _) hp
      · cases e3
    · cases e
end
end DC
namespace DC
open PySem PySem.Spec PyProof.Rows L2
/-- a comprehension within another one's element -/
theorem blkOk_blk {X : Cx} {s : Shared} {H : Hp} {scope : Scope} {cl : List (PySem.Str × Addr)} {C : Addr} {fp : List Addr} {N : List PySem.Str} {sc inner : Scope} {own : List (PySem.Str × Nat)} (hN : X.N = N) (hs : X.env.scope = sc) (h : blkC N (relS scope sc) inner own = true) :
    BlkOk (X.blk s H scope (compEnvC scope cl C X.env) fp).N (X.blk s H scope (compEnvC scope cl C X.env) fp).env.scope inner own := by
  subst hN hs
  exact blkOk_by h
end DC
set_option Elab.async false
set_option linter.all false
set_option maxRecDepth 100000
set_option maxHeartbeats 4000000
namespace K77
open PySem PySem.Spec PyProof.Rows L2 DC
def topS (i : Nat) : Stmt := PySem.Challenge.pw_exacttests_k77_whole_plans_at_rates.main.body.getD i (.Pass ⟨0, 0, 0, 0⟩)
abbrev st__law_cup : Stmt := topS 58
theorem sc__law_cup : FnScope ["script", "cell"] ["script"] (defScope st__law_cup) := ⟨rfl, rfl, rfl, by decide +kernel, rfl, by decide +kernel, by decide +kernel⟩
def F__law_cup : SD := (sSeq (sAsg 1 (xCb absD (lCons (xIx (xBin addD (xCb listD (lCons (xVar 0) lNil)) (xLst (lCons (xC (.int 0)) lNil))) (xC (.int 0))) lNil)))
    (sRet (xLst (lCons (xIf (bVal (xBin geD (xVar 1) (xBin powD (xC (.int 10)) (xC (.int 18))))) (xBin divD (xVar 1) (xC (.int 73))) (xC (.int 0))) (lCons (xBin addD (xBin modD (xCb intD (lCons (xBin addD (xBin mulD (xVar 1) (xC (.int 283))) (xC (.int 3907))) lNil)) (xC (.int 2077503167))) (xC (.int 167))) lNil)))))
def g__law_cup : List D → Store → Res D := bodyF F__law_cup 2
abbrev st__law_divisor : Stmt := topS 63
theorem sc__law_divisor : FnScope ["one", "other"] ["one", "other"] (defScope st__law_divisor) := ⟨rfl, rfl, rfl, by decide +kernel, rfl, by decide +kernel, by decide +kernel⟩
abbrev T__law_divisor_1 : XB := (bVal (xBin neD (xVar 1) (xC (.int 0))))
abbrev L__law_divisor_2 : SD := (sPar [0, 1] (mVal (xVar 1) (mVal (xBin modD (xCb intD (lCons (xVar 0) lNil)) (xVar 1)) mNil)))
def F__law_divisor : SD := (sSeq (sPar [0, 1] (mVal (xCb absD (lCons (xVar 0) lNil)) (mVal (xCb absD (lCons (xVar 1) lNil)) mNil)))
    (sSeq (sWhileV (fuelI 1) T__law_divisor_1 L__law_divisor_2)
    (sRet (xVar 0))))
def g__law_divisor : List D → Store → Res D := bodyD F__law_divisor 2
abbrev st__law_least : Stmt := topS 64
theorem sc__law_least : FnScope ["above", "below", "sign", "whole"] ["above", "below"] (defScope st__law_least) := ⟨rfl, rfl, rfl, by decide +kernel, rfl, by decide +kernel, by decide +kernel⟩
def F__law_least : SD := (sSeq (sAsg 2 (xIf (bVal (xBin ltD (xVar 1) (xC (.int 0)))) (xUn negD (xC (.int 1))) (xC (.int 1))))
    (sSeq (sAsg 3 (xCb max2D (lCons (xC (.int 1)) (lCons (xCall g__law_divisor (lCons (xVar 0) (lCons (xVar 1) lNil))) lNil))))
    (sRet (xTup (lCons (xCb intD (lCons (xBin divD (xBin mulD (xVar 2) (xVar 0)) (xVar 3)) lNil)) (lCons (xCb intD (lCons (xBin divD (xBin mulD (xVar 2) (xVar 1)) (xVar 3)) lNil)) lNil))))))
def g__law_least : List D → Store → Res D := bodyD F__law_least 4
abbrev st__law_times : Stmt := topS 71
theorem sc__law_times : FnScope ["one", "other"] ["one", "other"] (defScope st__law_times) := ⟨rfl, rfl, rfl, by decide +kernel, rfl, by decide +kernel, by decide +kernel⟩
def F__law_times : SD := (sRet (xCall g__law_least (lCons (xBin mulD (xIx (xVar 0) (xC (.int 0))) (xIx (xVar 1) (xC (.int 0)))) (lCons (xBin mulD (xIx (xVar 0) (xC (.int 1))) (xIx (xVar 1) (xC (.int 1)))) lNil))))
def g__law_times : List D → Store → Res D := bodyD F__law_times 2
abbrev st__law_sort : Stmt := topS 61
theorem sc__law_sort : FnScope ["value"] ["value"] (defScope st__law_sort) := ⟨rfl, rfl, rfl, by decide +kernel, rfl, by decide +kernel, by decide +kernel⟩
def F__law_sort : SD := (sSeq (sIf (bOr (bVal (xBin isN (xVar 0) (xC .non))) (bVal (xUn (isiD Ty.bool) (xVar 0)))) (sRet (xIf (bVal (xBin isN (xVar 0) (xC .non))) (xC (.int 0)) (xC (.int 1)))) sNext)
    (sSeq (sIf (bOr (bVal (xUn (isiD Ty.int) (xVar 0))) (bVal (xUn (isiD Ty.str) (xVar 0)))) (sRet (xIf (bVal (xUn (isiD Ty.int) (xVar 0))) (xC (.int 2)) (xC (.int 3)))) sNext)
    (sRet (xIf (bVal (xUn (isiD Ty.tuple) (xVar 0))) (xC (.int 4)) (xIf (bVal (xUn (isiD Ty.list) (xVar 0))) (xC (.int 5)) (xC (.int 6)))))))
def g__law_sort : List D → Store → Res D := bodyD F__law_sort 1
abbrev st__law_like : Stmt := topS 62
theorem sc__law_like : FnScope ["one", "other", "sort", "first", "second"] ["one", "other"] (defScope st__law_like) := ⟨rfl, rfl, rfl, by decide +kernel, rfl, by decide +kernel, by decide +kernel⟩
abbrev C__law_like_1 (self : List D → Store → Res D) : XD := (xLc (wZipA (lCons (xVar 0) (lCons (xVar 1) lNil))) (gT (gC (gN 3) (gC (gN 4) gE))) (bNot (bVal (xCall self (lCons (xVar 3) (lCons (xVar 4) lNil))))) (xC (.int 1)) [3, 4])
def F__law_like (self : List D → Store → Res D) : SD := (sSeq (sAsg 2 (xCall g__law_sort (lCons (xVar 1) lNil)))
    (sSeq (sIf (bOr (bVal (xBin neD (xCall g__law_sort (lCons (xVar 0) lNil)) (xVar 2))) (bVal (xBin eqD (xVar 2) (xC (.int 6))))) (sRet (xC (.bl false))) sNext)
    (sSeq (sIf (bVal (xBin (inSq false) (xVar 2) (xTup (lCons (xC (.int 4)) (lCons (xC (.int 5)) lNil))))) (sRet (xAnd (xBin eqD (xCb lenD (lCons (xVar 0) lNil)) (xCb lenD (lCons (xVar 1) lNil))) (xBin eqD (C__law_like_1 self) (xLst lNil)))) sNext)
    (sRet (xBin eqD (xVar 0) (xVar 1))))))
def g__law_like : Nat → List D → Store → Res D
  | 0 => fun _ _ => .fail
  | n + 1 => bodyD (F__law_like (g__law_like n)) 5
abbrev st_is_tuple_of : Stmt := topS 14
theorem sc_is_tuple_of : FnScope ["value", "low", "high"] ["value", "low", "high"] (defScope st_is_tuple_of) := ⟨rfl, rfl, rfl, by decide +kernel, rfl, by decide +kernel, by decide +kernel⟩
def F_is_tuple_of : SD := (sRet (xAnd (xUn (isiD Ty.tuple) (xVar 0)) (xChain leD leD (xVar 1) (xCb lenD (lCons (xVar 0) lNil)) (xVar 2))))
def g_is_tuple_of : List D → Store → Res D := bodyD F_is_tuple_of 3
abbrev st_is_integer : Stmt := topS 12
theorem sc_is_integer : FnScope ["value"] ["value"] (defScope st_is_integer) := ⟨rfl, rfl, rfl, by decide +kernel, rfl, by decide +kernel, by decide +kernel⟩
def F_is_integer : SD := (sRet (xAnd (xUn (isiD Ty.int) (xVar 0)) (xNot (xUn (isiD Ty.bool) (xVar 0)))))
def g_is_integer : List D → Store → Res D := bodyD F_is_integer 1
abbrev st_is_whole : Stmt := topS 13
theorem sc_is_whole : FnScope ["value", "low", "high"] ["value", "low", "high"] (defScope st_is_whole) := ⟨rfl, rfl, rfl, by decide +kernel, rfl, by decide +kernel, by decide +kernel⟩
def F_is_whole : SD := (sRet (xAnd (xCall g_is_integer (lCons (xVar 0) lNil)) (xChain leD leD (xVar 1) (xVar 0) (xVar 2))))
def g_is_whole : List D → Store → Res D := bodyD F_is_whole 3
abbrev st_fits_bounds : Stmt := topS 33
theorem sc_fits_bounds : FnScope ["value", "bound"] ["value"] (defScope st_fits_bounds) := ⟨rfl, rfl, rfl, by decide +kernel, rfl, by decide +kernel, by decide +kernel⟩
abbrev C_fits_bounds_1 : XD := (xLc (iSeq (xVar 0)) (gN 1) bTrue (xCall g_is_whole (lCons (xVar 1) (lCons (xC (.int (-1))) (lCons (xC (.int 41)) lNil)))) [1])
def F_fits_bounds : SD := (sSeq (sIf (bOr (bNot (bVal (xCall g_is_tuple_of (lCons (xVar 0) (lCons (xC (.int 2)) (lCons (xC (.int 2)) lNil)))))) (bNot (bVal (xCb allD (lCons C_fits_bounds_1 lNil))))) (sRet (xC (.bl false))) sNext)
    (sRet (xBin ltD (xIx (xVar 0) (xC (.int 0))) (xIx (xVar 0) (xC (.int 1))))))
def g_fits_bounds : List D → Store → Res D := bodyD F_fits_bounds 2
abbrev st_fits_end_plan : Stmt := topS 34
theorem sc_fits_end_plan : FnScope ["value", "bounds"] ["value"] (defScope st_fits_end_plan) := ⟨rfl, rfl, rfl, by decide +kernel, rfl, by decide +kernel, by decide +kernel⟩
abbrev C_fits_end_plan_1 : XD := (xLc (iSeq (xVar 0)) (gN 1) bTrue (xCall g_fits_bounds (lCons (xVar 1) lNil)) [1])
def F_fits_end_plan : SD := (sSeq (sIf (bOr (bNot (bVal (xCall g_is_tuple_of (lCons (xVar 0) (lCons (xC (.int 1)) (lCons (xC (.int 40)) lNil)))))) (bNot (bVal (xCb allD (lCons C_fits_end_plan_1 lNil))))) (sRet (xC (.bl false))) sNext)
    (sRet (xBin eqD (xIx (xIx (xVar 0) (xUn negD (xC (.int 1)))) (xC (.int 1))) (xBin addD (xIx (xIx (xVar 0) (xUn negD (xC (.int 1)))) (xC (.int 0))) (xC (.int 1))))))
def g_fits_end_plan : List D → Store → Res D := bodyD F_fits_end_plan 2
abbrev st_need_end_plan : Stmt := topS 35
theorem sc_need_end_plan : FnScope ["value"] ["value"] (defScope st_need_end_plan) := ⟨rfl, rfl, rfl, by decide +kernel, rfl, by decide +kernel, by decide +kernel⟩
def F_need_end_plan : SD := (sIf (bNot (bVal (xCall g_fits_end_plan (lCons (xVar 0) lNil)))) sFail sNext)
def g_need_end_plan : List D → Store → Res D := bodyD F_need_end_plan 1
abbrev st_divisor_of : Stmt := topS 16
theorem sc_divisor_of : FnScope ["one", "other"] ["one", "other"] (defScope st_divisor_of) := ⟨rfl, rfl, rfl, by decide +kernel, rfl, by decide +kernel, by decide +kernel⟩
abbrev T_divisor_of_1 : XB := (bVal (xBin neD (xVar 1) (xC (.int 0))))
abbrev L_divisor_of_2 : SD := (sPar [0, 1] (mVal (xVar 1) (mVal (xBin modD (xVar 0) (xVar 1)) mNil)))
def F_divisor_of : SD := (sSeq (sPar [0, 1] (mVal (xCb absD (lCons (xVar 0) lNil)) (mVal (xCb absD (lCons (xVar 1) lNil)) mNil)))
    (sSeq (sWhileV (fuelI 1) T_divisor_of_1 L_divisor_of_2)
    (sRet (xVar 0))))
def g_divisor_of : List D → Store → Res D := bodyD F_divisor_of 2
abbrev st_fits_fraction : Stmt := topS 21
theorem sc_fits_fraction : FnScope ["value", "number"] ["value"] (defScope st_fits_fraction) := ⟨rfl, rfl, rfl, by decide +kernel, rfl, by decide +kernel, by decide +kernel⟩
abbrev C_fits_fraction_1 : XD := (xLc (iSeq (xVar 0)) (gN 1) bTrue (xAnd (xCall g_is_integer (lCons (xVar 1) lNil)) (xChain ltD ltD (xUn negD (xC (.int 1000000000000000000000000000000000000000000000000000000000000))) (xVar 1) (xC (.int 1000000000000000000000000000000000000000000000000000000000000)))) [1])
def F_fits_fraction : SD := (sSeq (sIf (bOr (bNot (bVal (xCall g_is_tuple_of (lCons (xVar 0) (lCons (xC (.int 2)) (lCons (xC (.int 2)) lNil)))))) (bNot (bVal (xCb allD (lCons C_fits_fraction_1 lNil))))) (sRet (xC (.bl false))) sNext)
    (sRet (xAnd (xBin geD (xIx (xVar 0) (xC (.int 1))) (xC (.int 1))) (xBin eqD (xCall g_divisor_of (lCons (xIx (xVar 0) (xC (.int 0))) (lCons (xIx (xVar 0) (xC (.int 1))) lNil))) (xC (.int 1))))))
def g_fits_fraction : List D → Store → Res D := bodyD F_fits_fraction 2
abbrev st_fits_chance : Stmt := topS 22
theorem sc_fits_chance : FnScope ["value"] ["value"] (defScope st_fits_chance) := ⟨rfl, rfl, rfl, by decide +kernel, rfl, by decide +kernel, by decide +kernel⟩
def F_fits_chance : SD := (sRet (xAnd (xCall g_fits_fraction (lCons (xVar 0) lNil)) (xChain leD leD (xC (.int 0)) (xIx (xVar 0) (xC (.int 0))) (xIx (xVar 0) (xC (.int 1))))))
def g_fits_chance : List D → Store → Res D := bodyD F_fits_chance 1
abbrev st_need_up_rate : Stmt := topS 44
theorem sc_need_up_rate : FnScope ["value"] ["value"] (defScope st_need_up_rate) := ⟨rfl, rfl, rfl, by decide +kernel, rfl, by decide +kernel, by decide +kernel⟩
def F_need_up_rate : SD := (sIf (bOr (bNot (bVal (xCall g_fits_chance (lCons (xVar 0) lNil)))) (bOr (bNot (bVal (xChain ltD ltD (xC (.int 0)) (xIx (xVar 0) (xC (.int 0))) (xIx (xVar 0) (xC (.int 1)))))) (bVal (xBin gtD (xIx (xVar 0) (xC (.int 1))) (xC (.int 30)))))) sFail sNext)
def g_need_up_rate : List D → Store → Res D := bodyD F_need_up_rate 1
abbrev st_need_plan_at : Stmt := topS 50
theorem sc_need_plan_at : FnScope ["plan", "rate"] ["plan", "rate"] (defScope st_need_plan_at) := ⟨rfl, rfl, rfl, by decide +kernel, rfl, by decide +kernel, by decide +kernel⟩
def F_need_plan_at : SD := (sSeq (sExpr (xCall g_need_end_plan (lCons (xVar 0) lNil)))
    (sExpr (xCall g_need_up_rate (lCons (xVar 1) lNil))))
def g_need_plan_at : List D → Store → Res D := bodyD F_need_plan_at 2
abbrev st_lowest : Stmt := topS 17
theorem sc_lowest : FnScope ["above", "below", "part"] ["above", "below"] (defScope st_lowest) := ⟨rfl, rfl, rfl, by decide +kernel, rfl, by decide +kernel, by decide +kernel⟩
def F_lowest : SD := (sSeq (sAsg 2 (xBin mulD (xCall g_divisor_of (lCons (xVar 0) (lCons (xVar 1) lNil))) (xIf (bVal (xBin gtD (xVar 1) (xC (.int 0)))) (xC (.int 1)) (xUn negD (xC (.int 1))))))
    (sRet (xTup (lCons (xBin divD (xVar 0) (xVar 2)) (lCons (xBin divD (xVar 1) (xVar 2)) lNil)))))
def g_lowest : List D → Store → Res D := bodyD F_lowest 3
abbrev st_many_times : Stmt := topS 45
theorem sc_many_times : FnScope ["number", "times", "found", "turn"] ["number", "times"] (defScope st_many_times) := ⟨rfl, rfl, rfl, by decide +kernel, rfl, by decide +kernel, by decide +kernel⟩
abbrev L_many_times_1 : SD := (sAsg 2 (xBin mulD (xVar 2) (xVar 0)))
def F_many_times : SD := (sSeq (sAsg 2 (xC (.int 1)))
    (sSeq (sFor (iRg1 (lCons (xVar 1) lNil)) (gN 3) L_many_times_1)
    (sRet (xVar 2))))
def g_many_times : List D → Store → Res D := bodyD F_many_times 4
abbrev st_point_chance : Stmt := topS 46
theorem sc_point_chance : FnScope ["rate", "many", "ups", "ways", "above", "below"] ["rate", "many", "ups", "ways"] (defScope st_point_chance) := ⟨rfl, rfl, rfl, by decide +kernel, rfl, by decide +kernel, by decide +kernel⟩
def F_point_chance : SD := (sSeq (sAsgG (xVar 0) (gT (gC (gN 4) (gC (gN 5) gE))))
    (sRet (xCall g_lowest (lCons (xBin mulD (xBin mulD (xVar 3) (xCall g_many_times (lCons (xVar 4) (lCons (xVar 2) lNil)))) (xCall g_many_times (lCons (xBin subD (xVar 5) (xVar 4)) (lCons (xBin subD (xVar 1) (xVar 2)) lNil)))) (lCons (xCall g_many_times (lCons (xVar 5) (lCons (xVar 1) lNil))) lNil)))))
def g_point_chance : List D → Store → Res D := bodyD F_point_chance 6
abbrev st_layers_of_plan : Stmt := topS 36
theorem sc_layers_of_plan : FnScope ["plan", "opened", "ended", "low", "high", "ahead", "here", "one", "other", "ups", "ways"] ["plan"] (defScope st_layers_of_plan) := ⟨rfl, rfl, rfl, by decide +kernel, rfl, by decide +kernel, by decide +kernel⟩
abbrev C_layers_of_plan_1 : XD := (xLc (wZipA (lCons (xBin addD (xVar 5) (xLst (lCons (xC (.int 0)) lNil))) (lCons (xBin addD (xLst (lCons (xC (.int 0)) lNil)) (xVar 5)) lNil))) (gT (gC (gN 7) (gC (gN 8) gE))) bTrue (xBin addD (xVar 7) (xVar 8)) [7, 8])
abbrev C_layers_of_plan_2 : XD := (xLc (wEnumA (xVar 6)) (gT (gC (gN 9) (gC (gN 10) gE))) bTrue (xIf (bVal (xChain ltD ltD (xVar 3) (xVar 9) (xVar 4))) (xVar 10) (xC (.int 0))) [9, 10])
abbrev C_layers_of_plan_3 : XD := (xLc (wEnumA (xVar 6)) (gT (gC (gN 9) (gC (gN 10) gE))) bTrue (xIf (bVal (xChain ltD ltD (xVar 3) (xVar 9) (xVar 4))) (xC (.int 0)) (xVar 10)) [9, 10])
abbrev L_layers_of_plan_4 : SD := (sSeq (sAsg 5 (xIxO 1 (xUn negD (xC (.int 1)))))
    (sSeq (sAsg 6 C_layers_of_plan_1)
    (sSeq (sApp 1 C_layers_of_plan_2)
    (sApp 2 C_layers_of_plan_3))))
def F_layers_of_plan : SD := (sSeq (sPar [1, 2] (mNew (xLst (lCons (xLst (lCons (xC (.int 1)) lNil)) lNil)) (mNew (xLst lNil) mNil)))
    (sSeq (sFor (iSeq (xVar 0)) (gT (gC (gN 3) (gC (gN 4) gE))) L_layers_of_plan_4)
    (sFrz 2 (sFrz 1 (sRet (xTup (lCons (xVar 1) (lCons (xVar 2) lNil))))))))
def g_layers_of_plan : List D → Store → Res D := bodyD F_layers_of_plan 11
abbrev st_points_in_plan : Stmt := topS 37
theorem sc_points_in_plan : FnScope ["plan", "found", "at", "row", "ups", "ways"] ["plan"] (defScope st_points_in_plan) := ⟨rfl, rfl, rfl, by decide +kernel, rfl, by decide +kernel, by decide +kernel⟩
abbrev C_points_in_plan_1 : XD := (xLc (wEnumA (xVar 3)) (gT (gC (gN 4) (gC (gN 5) gE))) (bVal (xBin gtD (xVar 5) (xC (.int 0)))) (xTup (lCons (xBin addD (xVar 2) (xC (.int 1))) (lCons (xVar 4) (lCons (xVar 5) lNil)))) [4, 5])
abbrev L_points_in_plan_2 : SD := (sAsg 1 (xBin addD (xVar 1) C_points_in_plan_1))
def F_points_in_plan : SD := (sSeq (sAsg 1 (xLst lNil))
    (sSeq (sFor (wEnumA (xIx (xCall g_layers_of_plan (lCons (xVar 0) lNil)) (xC (.int 1)))) (gT (gC (gN 2) (gC (gN 3) gE))) L_points_in_plan_2)
    (sRet (xVar 1))))
def g_points_in_plan : List D → Store → Res D := bodyD F_points_in_plan 6
abbrev st_chances_of_points : Stmt := topS 47
theorem sc_chances_of_points : FnScope ["plan", "rate", "many", "ups", "ways"] ["plan", "rate"] (defScope st_chances_of_points) := ⟨rfl, rfl, rfl, by decide +kernel, rfl, by decide +kernel, by decide +kernel⟩
abbrev C_chances_of_points_1 : XD := (xLc (iSeq (xCall g_points_in_plan (lCons (xVar 0) lNil))) (gT (gC (gN 2) (gC (gN 3) (gC (gN 4) gE)))) bTrue (xTup (lCons (xVar 2) (lCons (xVar 3) (lCons (xCall g_point_chance (lCons (xVar 1) (lCons (xVar 2) (lCons (xVar 3) (lCons (xVar 4) lNil))))) lNil)))) [2, 3, 4])
def F_chances_of_points : SD := (sRet C_chances_of_points_1)
def g_chances_of_points : List D → Store → Res D := bodyD F_chances_of_points 5
abbrev st_sum_in : Stmt := topS 18
theorem sc_sum_in : FnScope ["one", "other"] ["one", "other"] (defScope st_sum_in) := ⟨rfl, rfl, rfl, by decide +kernel, rfl, by decide +kernel, by decide +kernel⟩
def F_sum_in : SD := (sRet (xCall g_lowest (lCons (xBin addD (xBin mulD (xIx (xVar 0) (xC (.int 0))) (xIx (xVar 1) (xC (.int 1)))) (xBin mulD (xIx (xVar 1) (xC (.int 0))) (xIx (xVar 0) (xC (.int 1))))) (lCons (xBin mulD (xIx (xVar 0) (xC (.int 1))) (xIx (xVar 1) (xC (.int 1)))) lNil))))
def g_sum_in : List D → Store → Res D := bodyD F_sum_in 2
abbrev st_sum_over : Stmt := topS 19
theorem sc_sum_over : FnScope ["fractions", "found", "fraction"] ["fractions"] (defScope st_sum_over) := ⟨rfl, rfl, rfl, by decide +kernel, rfl, by decide +kernel, by decide +kernel⟩
abbrev L_sum_over_1 : SD := (sAsg 1 (xCall g_sum_in (lCons (xVar 1) (lCons (xVar 2) lNil))))
def F_sum_over : SD := (sSeq (sAsg 1 (xC (.tup [(.int 0), (.int 1)])))
    (sSeq (sFor (iSeq (xVar 0)) (gN 2) L_sum_over_1)
    (sRet (xVar 1))))
def g_sum_over : List D → Store → Res D := bodyD F_sum_over 3
abbrev st_part_up : Stmt := topS 48
theorem sc_part_up : FnScope ["plan", "rate", "is_up", "found", "many", "ups", "chance"] ["plan", "rate", "is_up"] (defScope st_part_up) := ⟨rfl, rfl, rfl, by decide +kernel, rfl, by decide +kernel, by decide +kernel⟩
abbrev L_part_up_1 : SD := (sIf (bVal (xBin eqD (xBin geD (xVar 5) (xIx (xIx (xVar 0) (xBin subD (xVar 4) (xC (.int 1)))) (xC (.int 1)))) (xVar 2))) (sApp 3 (xVar 6)) sNext)
def F_part_up : SD := (sSeq (sAsgF 3 (xLst lNil))
    (sSeq (sFor (iSeq (xCall g_chances_of_points (lCons (xVar 0) (lCons (xVar 1) lNil)))) (gT (gC (gN 4) (gC (gN 5) (gC (gN 6) gE)))) L_part_up_1)
    (sFrz 3 (sRet (xCall g_sum_over (lCons (xVar 3) lNil))))))
def g_part_up : List D → Store → Res D := bodyD F_part_up 7
abbrev st_chance_up : Stmt := topS 51
theorem sc_chance_up : FnScope ["plan", "rate"] ["plan", "rate"] (defScope st_chance_up) := ⟨rfl, rfl, rfl, by decide +kernel, rfl, by decide +kernel, by decide +kernel⟩
def F_chance_up : SD := (sSeq (sExpr (xCall g_need_plan_at (lCons (xVar 0) (lCons (xVar 1) lNil))))
    (sRet (xCall g_part_up (lCons (xVar 0) (lCons (xVar 1) (lCons (xC (.bl true)) lNil))))))
def g_chance_up : List D → Store → Res D := bodyD F_chance_up 2
abbrev st_chance_down : Stmt := topS 52
theorem sc_chance_down : FnScope ["plan", "rate"] ["plan", "rate"] (defScope st_chance_down) := ⟨rfl, rfl, rfl, by decide +kernel, rfl, by decide +kernel, by decide +kernel⟩
def F_chance_down : SD := (sSeq (sExpr (xCall g_need_plan_at (lCons (xVar 0) (lCons (xVar 1) lNil))))
    (sRet (xCall g_part_up (lCons (xVar 0) (lCons (xVar 1) (lCons (xC (.bl false)) lNil))))))
def g_chance_down : List D → Store → Res D := bodyD F_chance_down 2
abbrev st_trials_in : Stmt := topS 49
theorem sc_trials_in : FnScope ["plan", "rate", "points", "numbers", "many", "ups", "chance", "own"] ["plan", "rate"] (defScope st_trials_in) := ⟨rfl, rfl, rfl, by decide +kernel, rfl, by decide +kernel, by decide +kernel⟩
abbrev C_trials_in_1 : XD := (xLc (iSeq (xVar 2)) (gT (gC (gN 4) (gC (gN 5) (gC (gN 6) gE)))) bTrue (xVar 4) [4, 5, 6])
abbrev C_trials_in_2 : XD := (xLc (iSeq (xVar 2)) (gT (gC (gN 4) (gC (gN 5) (gC (gN 6) gE)))) (bVal (xBin eqD (xVar 4) (xVar 7))) (xVar 6) [4, 5, 6])
abbrev C_trials_in_3 : XD := (xLc (iSeq (xVar 3)) (gN 7) bTrue (xTup (lCons (xVar 7) (lCons (xCall g_sum_over (lCons C_trials_in_2 lNil)) lNil))) [7])
def F_trials_in : SD := (sSeq (sAsg 2 (xCall g_chances_of_points (lCons (xVar 0) (lCons (xVar 1) lNil))))
    (sSeq (sAsg 3 (xCb sortSetD (lCons C_trials_in_1 lNil)))
    (sRet (xCb tupleD (lCons C_trials_in_3 lNil)))))
def g_trials_in : List D → Store → Res D := bodyD F_trials_in 8
abbrev st_trial_chances : Stmt := topS 53
theorem sc_trial_chances : FnScope ["plan", "rate"] ["plan", "rate"] (defScope st_trial_chances) := ⟨rfl, rfl, rfl, by decide +kernel, rfl, by decide +kernel, by decide +kernel⟩
def F_trial_chances : SD := (sSeq (sExpr (xCall g_need_plan_at (lCons (xVar 0) (lCons (xVar 1) lNil))))
    (sRet (xCall g_trials_in (lCons (xVar 0) (lCons (xVar 1) lNil)))))
def g_trial_chances : List D → Store → Res D := bodyD F_trial_chances 2
abbrev st_mean_in : Stmt := topS 26
theorem sc_mean_in : FnScope ["chances", "value", "chance"] ["chances"] (defScope st_mean_in) := ⟨rfl, rfl, rfl, by decide +kernel, rfl, by decide +kernel, by decide +kernel⟩
abbrev C_mean_in_1 : XD := (xLc (iSeq (xVar 0)) (gT (gC (gN 1) (gC (gN 2) gE))) bTrue (xCall g_lowest (lCons (xBin mulD (xVar 1) (xIx (xVar 2) (xC (.int 0)))) (lCons (xIx (xVar 2) (xC (.int 1))) lNil))) [1, 2])
def F_mean_in : SD := (sRet (xCall g_sum_over (lCons C_mean_in_1 lNil)))
def g_mean_in : List D → Store → Res D := bodyD F_mean_in 3
abbrev st_mean_trials : Stmt := topS 54
theorem sc_mean_trials : FnScope ["plan", "rate"] ["plan", "rate"] (defScope st_mean_trials) := ⟨rfl, rfl, rfl, by decide +kernel, rfl, by decide +kernel, by decide +kernel⟩
def F_mean_trials : SD := (sSeq (sExpr (xCall g_need_plan_at (lCons (xVar 0) (lCons (xVar 1) lNil))))
    (sRet (xCall g_mean_in (lCons (xCall g_trials_in (lCons (xVar 0) (lCons (xVar 1) lNil))) lNil))))
def g_mean_trials : List D → Store → Res D := bodyD F_mean_trials 2
abbrev st__law_roll : Stmt := topS 59
theorem sc__law_roll : FnScope ["cup", "many", "found", "deep"] ["cup", "many"] (defScope st__law_roll) := ⟨rfl, rfl, rfl, by decide +kernel, rfl, by decide +kernel, by decide +kernel⟩
def F__law_roll : SD := (sSeq (sIf (bVal (xBin gtD (xIx (xVar 0) (xC (.int 0))) (xC (.int 0)))) (sSeq (sAsg 2 (xBin modD (xCb intD (lCons (xIx (xVar 0) (xC (.int 0))) lNil)) (xVar 1)))
    (sSeq (sSetI 0 (xC (.int 0)) (xBin divD (xIx (xVar 0) (xC (.int 0))) (xVar 1)))
    (sRet (xVar 2)))) sNext)
    (sSeq (sSetI 0 (xC (.int 1)) (xBin modD (xCb intD (lCons (xBin addD (xBin mulD (xIx (xVar 0) (xC (.int 1))) (xC (.int 31051))) (xC (.int 7993))) lNil)) (xC (.int 2147483543))))
    (sSeq (sAsg 3 (xBin modD (xCb intD (lCons (xBin mulD (xIx (xVar 0) (xC (.int 1))) (xBin addD (xIx (xVar 0) (xC (.int 1))) (xC (.int 229)))) lNil)) (xC (.int 2147483587))))
    (sRet (xBin modD (xCb intD (lCons (xBin divD (xVar 3) (xC (.int 821))) lNil)) (xVar 1))))))
def g__law_roll : List D → Store → Res D := bodyD F__law_roll 4
abbrev st__law_rate : Stmt := topS 69
theorem sc__law_rate : FnScope ["cup", "below"] ["cup"] (defScope st__law_rate) := ⟨rfl, rfl, rfl, by decide +kernel, rfl, by decide +kernel, by decide +kernel⟩
def F__law_rate : SD := (sSeq (sAsg 1 (xBin addD (xC (.int 2)) (xCall g__law_roll (lCons (xVar 0) (lCons (xC (.int 29)) lNil)))))
    (sRet (xCall g__law_least (lCons (xBin addD (xC (.int 1)) (xCall g__law_roll (lCons (xVar 0) (lCons (xBin subD (xVar 1) (xC (.int 1))) lNil)))) (lCons (xVar 1) lNil)))))
def g__law_rate : List D → Store → Res D := bodyD F__law_rate 2
abbrev st__law_power : Stmt := topS 68
theorem sc__law_power : FnScope ["number", "times", "found", "turn"] ["number", "times"] (defScope st__law_power) := ⟨rfl, rfl, rfl, by decide +kernel, rfl, by decide +kernel, by decide +kernel⟩
abbrev L__law_power_1 : SD := (sAsg 2 (xBin mulD (xVar 2) (xVar 0)))
def F__law_power : SD := (sSeq (sAsg 2 (xC (.int 1)))
    (sSeq (sFor (iRg1 (lCons (xVar 1) lNil)) (gN 3) L__law_power_1)
    (sRet (xVar 2))))
def g__law_power : List D → Store → Res D := bodyD F__law_power 4
abbrev st__law_plus : Stmt := topS 65
theorem sc__law_plus : FnScope ["one", "other"] ["one", "other"] (defScope st__law_plus) := ⟨rfl, rfl, rfl, by decide +kernel, rfl, by decide +kernel, by decide +kernel⟩
def F__law_plus : SD := (sRet (xCall g__law_least (lCons (xBin addD (xBin mulD (xIx (xVar 0) (xC (.int 0))) (xIx (xVar 1) (xC (.int 1)))) (xBin mulD (xIx (xVar 1) (xC (.int 0))) (xIx (xVar 0) (xC (.int 1))))) (lCons (xBin mulD (xIx (xVar 0) (xC (.int 1))) (xIx (xVar 1) (xC (.int 1)))) lNil))))
def g__law_plus : List D → Store → Res D := bodyD F__law_plus 2
abbrev st_ways_at : Stmt := topS 38
theorem sc_ways_at : FnScope ["plan", "many", "ups", "trials", "own", "ways"] ["plan", "many", "ups"] (defScope st_ways_at) := ⟨rfl, rfl, rfl, by decide +kernel, rfl, by decide +kernel, by decide +kernel⟩
abbrev C_ways_at_1 : XD := (xLc (iSeq (xCall g_points_in_plan (lCons (xVar 0) lNil))) (gT (gC (gN 3) (gC (gN 4) (gC (gN 5) gE)))) (bVal (xBin eqD (xTup (lCons (xVar 3) (lCons (xVar 4) lNil))) (xTup (lCons (xVar 1) (lCons (xVar 2) lNil))))) (xVar 5) [3, 4, 5])
def F_ways_at : SD := (sRet (xCb sumA (lCons C_ways_at_1 lNil)))
def g_ways_at : List D → Store → Res D := bodyD F_ways_at 6
abbrev st_need_end_point : Stmt := topS 39
theorem sc_need_end_point : FnScope ["plan", "many", "ups"] ["plan", "many", "ups"] (defScope st_need_end_point) := ⟨rfl, rfl, rfl, by decide +kernel, rfl, by decide +kernel, by decide +kernel⟩
def F_need_end_point : SD := (sSeq (sIf (bNot (bVal (xCall g_is_whole (lCons (xVar 1) (lCons (xC (.int 1)) (lCons (xCb lenD (lCons (xVar 0) lNil)) lNil)))))) sFail sNext)
    (sIf (bOr (bNot (bVal (xCall g_is_whole (lCons (xVar 2) (lCons (xC (.int 0)) (lCons (xVar 1) lNil)))))) (bVal (xBin eqD (xCall g_ways_at (lCons (xVar 0) (lCons (xVar 1) (lCons (xVar 2) lNil)))) (xC (.int 0))))) sFail sNext))
def g_need_end_point : List D → Store → Res D := bodyD F_need_end_point 3
abbrev st_end_chance : Stmt := topS 55
theorem sc_end_chance : FnScope ["plan", "rate", "many", "ups"] ["plan", "rate", "many", "ups"] (defScope st_end_chance) := ⟨rfl, rfl, rfl, by decide +kernel, rfl, by decide +kernel, by decide +kernel⟩
def F_end_chance : SD := (sSeq (sExpr (xCall g_need_plan_at (lCons (xVar 0) (lCons (xVar 1) lNil))))
    (sSeq (sExpr (xCall g_need_end_point (lCons (xVar 0) (lCons (xVar 2) (lCons (xVar 3) lNil)))))
    (sRet (xCall g_point_chance (lCons (xVar 1) (lCons (xVar 2) (lCons (xVar 3) (lCons (xCall g_ways_at (lCons (xVar 0) (lCons (xVar 2) (lCons (xVar 3) lNil)))) lNil))))))))
def g_end_chance : List D → Store → Res D := bodyD F_end_chance 4
abbrev st_product_in : Stmt := topS 20
theorem sc_product_in : FnScope ["one", "other"] ["one", "other"] (defScope st_product_in) := ⟨rfl, rfl, rfl, by decide +kernel, rfl, by decide +kernel, by decide +kernel⟩
def F_product_in : SD := (sRet (xCall g_lowest (lCons (xBin mulD (xIx (xVar 0) (xC (.int 0))) (xIx (xVar 1) (xC (.int 0)))) (lCons (xBin mulD (xIx (xVar 0) (xC (.int 1))) (xIx (xVar 1) (xC (.int 1)))) lNil))))
def g_product_in : List D → Store → Res D := bodyD F_product_in 2
abbrev st_share_begun : Stmt := topS 40
theorem sc_share_begun : FnScope ["plan", "many", "ups", "found", "ahead", "at", "low", "high", "one", "other", "own", "ways"] ["plan", "many", "ups"] (defScope st_share_begun) := ⟨rfl, rfl, rfl, by decide +kernel, rfl, by decide +kernel, by decide +kernel⟩
abbrev C_share_begun_1 : XD := (xLc (wZipA (lCons (xBin addD (xVar 4) (xLst (lCons (xC (.int 0)) lNil))) (lCons (xBin addD (xLst (lCons (xC (.int 0)) lNil)) (xVar 4)) lNil))) (gT (gC (gN 8) (gC (gN 9) gE))) bTrue (xBin addD (xVar 8) (xVar 9)) [8, 9])
abbrev C_share_begun_2 : XD := (xLc (wEnumA (xVar 4)) (gT (gC (gN 10) (gC (gN 11) gE))) bTrue (xIf (bVal (xChain ltD ltD (xVar 6) (xVar 10) (xVar 7))) (xVar 11) (xC (.int 0))) [10, 11])
abbrev L_share_begun_3 : SD := (sSeq (sAsgG (xIx (xVar 0) (xVar 5)) (gT (gC (gN 6) (gC (gN 7) gE))))
    (sSeq (sIf (bVal (xBin gtD (xVar 5) (xC (.int 0)))) (sAsg 4 C_share_begun_1) sNext)
    (sSeq (sIf (bVal (xBin eqD (xVar 5) (xBin subD (xVar 1) (xC (.int 1))))) (sAsg 3 (xIx (xVar 4) (xVar 2))) sNext)
    (sAsg 4 C_share_begun_2))))
def F_share_begun : SD := (sSeq (sPar [3, 4] (mVal (xC (.int 0)) (mVal (xLst (lCons (xC (.int 0)) (lCons (xC (.int 1)) lNil))) mNil)))
    (sSeq (sFor (iRg1 (lCons (xVar 1) lNil)) (gN 5) L_share_begun_3)
    (sRet (xCall g_lowest (lCons (xVar 3) (lCons (xCall g_ways_at (lCons (xVar 0) (lCons (xVar 1) (lCons (xVar 2) lNil)))) lNil))))))
def g_share_begun : List D → Store → Res D := bodyD F_share_begun 12
abbrev st_share_mean : Stmt := topS 56
theorem sc_share_mean : FnScope ["plan", "rate", "points", "many", "ups", "chance"] ["plan", "rate"] (defScope st_share_mean) := ⟨rfl, rfl, rfl, by decide +kernel, rfl, by decide +kernel, by decide +kernel⟩
abbrev C_share_mean_1 : XD := (xLc (iSeq (xVar 2)) (gT (gC (gN 3) (gC (gN 4) (gC (gN 5) gE)))) bTrue (xCall g_product_in (lCons (xCall g_share_begun (lCons (xVar 0) (lCons (xVar 3) (lCons (xVar 4) lNil)))) (lCons (xVar 5) lNil))) [3, 4, 5])
def F_share_mean : SD := (sSeq (sExpr (xCall g_need_plan_at (lCons (xVar 0) (lCons (xVar 1) lNil))))
    (sSeq (sAsg 2 (xCall g_chances_of_points (lCons (xVar 0) (lCons (xVar 1) lNil))))
    (sRet (xCall g_sum_over (lCons C_share_mean_1 lNil)))))
def g_share_mean : List D → Store → Res D := bodyD F_share_mean 6
abbrev st__law_plan : Stmt := topS 66
theorem sc__law_plan : FnScope ["cup", "most", "many", "way", "found", "low", "own"] ["cup", "most"] (defScope st__law_plan) := ⟨rfl, rfl, rfl, by decide +kernel, rfl, by decide +kernel, by decide +kernel⟩
abbrev L__law_plan_1 : SD := (sSeq (sIf (bVal (xBin eqD (xVar 3) (xC (.int 0)))) (sAsg 5 (xCb min2D (lCons (xBin subD (xVar 6) (xC (.int 1))) (lCons (xBin addD (xVar 5) (xIf (bVal (xBin eqD (xCall g__law_roll (lCons (xVar 0) (lCons (xC (.int 3)) lNil))) (xC (.int 0)))) (xC (.int 1)) (xC (.int 0)))) lNil)))) sNext)
    (sSeq (sIf (bVal (xBin eqD (xVar 3) (xC (.int 1)))) (sAsg 5 (xBin subD (xCall g__law_roll (lCons (xVar 0) (lCons (xBin addD (xVar 6) (xC (.int 1))) lNil))) (xC (.int 1)))) sNext)
    (sSeq (sIf (bVal (xBin eqD (xVar 3) (xC (.int 2)))) (sAsg 5 (xIf (bVal (xBin gtD (xVar 6) (xC (.int 3)))) (xBin subD (xCb intD (lCons (xBin divD (xVar 6) (xC (.int 2))) lNil)) (xC (.int 2))) (xUn negD (xC (.int 1))))) sNext)
    (sApp 4 (xTup (lCons (xVar 5) (lCons (xIf (bVal (xBin ltD (xVar 6) (xVar 2))) (xCb min2D (lCons (xC (.int 41)) (lCons (xBin addD (xBin addD (xVar 5) (xC (.int 2))) (xCall g__law_roll (lCons (xVar 0) (lCons (xC (.int 4)) lNil)))) lNil))) (xBin addD (xVar 5) (xC (.int 1)))) lNil)))))))
def F__law_plan : SD := (sSeq (sPar [2, 3, 4, 5] (mVal (xBin addD (xC (.int 1)) (xCall g__law_roll (lCons (xVar 0) (lCons (xVar 1) lNil)))) (mVal (xCall g__law_roll (lCons (xVar 0) (lCons (xC (.int 3)) lNil))) (mNew (xLst lNil) (mVal (xUn negD (xC (.int 1))) mNil)))))
    (sSeq (sFor (iRg2 (lCons (xC (.int 1)) (lCons (xBin addD (xVar 2) (xC (.int 1))) lNil))) (gN 6) L__law_plan_1)
    (sFrz 4 (sRet (xCb tupleD (lCons (xVar 4) lNil))))))
def g__law_plan : List D → Store → Res D := bodyD F__law_plan 7
abbrev st_begun_share : Stmt := topS 41
theorem sc_begun_share : FnScope ["plan", "many", "ups"] ["plan", "many", "ups"] (defScope st_begun_share) := ⟨rfl, rfl, rfl, by decide +kernel, rfl, by decide +kernel, by decide +kernel⟩
def F_begun_share : SD := (sSeq (sExpr (xCall g_need_end_plan (lCons (xVar 0) lNil)))
    (sSeq (sExpr (xCall g_need_end_point (lCons (xVar 0) (lCons (xVar 1) (lCons (xVar 2) lNil)))))
    (sRet (xCall g_share_begun (lCons (xVar 0) (lCons (xVar 1) (lCons (xVar 2) lNil)))))))
def g_begun_share : List D → Store → Res D := bodyD F_begun_share 3
abbrev st__law_sum : Stmt := topS 72
theorem sc__law_sum : FnScope ["fractions", "found", "own"] ["fractions"] (defScope st__law_sum) := ⟨rfl, rfl, rfl, by decide +kernel, rfl, by decide +kernel, by decide +kernel⟩
abbrev L__law_sum_1 : SD := (sAsg 1 (xCall g__law_plus (lCons (xVar 1) (lCons (xVar 2) lNil))))
def F__law_sum : SD := (sSeq (sAsg 1 (xTup (lCons (xC (.int 0)) (lCons (xC (.int 1)) lNil))))
    (sSeq (sFor (iSeq (xVar 0)) (gN 2) L__law_sum_1)
    (sRet (xVar 1))))
def g__law_sum : List D → Store → Res D := bodyD F__law_sum 3
abbrev st__law_some : Stmt := topS 60
theorem sc__law_some : FnScope ["cup", "things"] ["cup", "things"] (defScope st__law_some) := ⟨rfl, rfl, rfl, by decide +kernel, rfl, by decide +kernel, by decide +kernel⟩
def F__law_some : SD := (sRet (xIx (xVar 1) (xCall g__law_roll (lCons (xVar 0) (lCons (xCb lenD (lCons (xVar 1) lNil)) lNil)))))
def g__law_some : List D → Store → Res D := bodyD F__law_some 2
abbrev st__law_chance : Stmt := topS 70
theorem sc__law_chance : FnScope ["rate", "many", "ups", "ways"] ["rate", "many", "ups", "ways"] (defScope st__law_chance) := ⟨rfl, rfl, rfl, by decide +kernel, rfl, by decide +kernel, by decide +kernel⟩
def F__law_chance : SD := (sRet (xCall g__law_least (lCons (xBin mulD (xBin mulD (xVar 3) (xCall g__law_power (lCons (xIx (xVar 0) (xC (.int 0))) (lCons (xVar 2) lNil)))) (xCall g__law_power (lCons (xBin subD (xIx (xVar 0) (xC (.int 1))) (xIx (xVar 0) (xC (.int 0)))) (lCons (xBin subD (xVar 1) (xVar 2)) lNil)))) (lCons (xCall g__law_power (lCons (xIx (xVar 0) (xC (.int 1))) (lCons (xVar 1) lNil))) lNil))))
def g__law_chance : List D → Store → Res D := bodyD F__law_chance 4
abbrev st__law_points : Stmt := topS 67
theorem sc__law_points : FnScope ["plan", "here", "found", "at", "low", "high", "later", "ups", "own"] ["plan"] (defScope st__law_points) := ⟨rfl, rfl, rfl, by decide +kernel, rfl, by decide +kernel, by decide +kernel⟩
abbrev L__law_points_1 : SD := (sPutK 6 (xVar 8) (xBin addD (xBor 6 (xGet2K (xVar 6) (xVar 8) (xC (.int 0)))) (xBor 1 (xGetK (xVar 1) (xVar 7)))))
abbrev L__law_points_2 : SD := (sFor (iSeq (xTup (lCons (xVar 7) (lCons (xBin addD (xVar 7) (xC (.int 1))) lNil)))) (gN 8) L__law_points_1)
abbrev L__law_points_3 : SD := (sIf (bVal (xChain ltD ltD (xVar 4) (xVar 8) (xVar 5))) (sPutK 1 (xVar 8) (xBor 6 (xGetK (xVar 6) (xVar 8)))) (sApp 2 (xTup (lCons (xBin addD (xVar 3) (xC (.int 1))) (lCons (xVar 8) (lCons (xBor 6 (xGetK (xVar 6) (xVar 8))) lNil))))))
abbrev L__law_points_4 : SD := (sSeq (sAsgF 6 xNewK)
    (sSeq (sForK 1 (gN 7) L__law_points_2)
    (sSeq (sAsgF 1 xNewK)
    (sFrz 6 (sFor (iSeq (xCb sortedA (lCons (xVar 6) lNil))) (gN 8) L__law_points_3)))))
def F__law_points : SD := (sSeq (sPar [1, 2] (mNew (xDisp1 (.inl 0) (.int 1)) (mNew (xLst lNil) mNil)))
    (sSeq (sFor (wEnumA (xVar 0)) (gT (gC (gN 3) (gC (gT (gC (gN 4) (gC (gN 5) gE))) gE))) L__law_points_4)
    (sFrz 2 (sRet (xVar 2)))))
def g__law_points : List D → Store → Res D := bodyD F__law_points 9
abbrev st_is_rising : Stmt := topS 15
theorem sc_is_rising : FnScope ["things", "one", "other"] ["things"] (defScope st_is_rising) := ⟨rfl, rfl, rfl, by decide +kernel, rfl, by decide +kernel, by decide +kernel⟩
abbrev C_is_rising_1 : XD := (xLc (wZipA (lCons (xVar 0) (lCons (xSl (xVar 0) (oSome (xC (.int 1))) oNone) lNil))) (gT (gC (gN 1) (gC (gN 2) gE))) bTrue (xBin ltD (xVar 1) (xVar 2)) [1, 2])
def F_is_rising : SD := (sRet (xCb allD (lCons C_is_rising_1 lNil)))
def g_is_rising : List D → Store → Res D := bodyD F_is_rising 3
abbrev st_is_share : Stmt := topS 23
theorem sc_is_share : FnScope ["value"] ["value"] (defScope st_is_share) := ⟨rfl, rfl, rfl, by decide +kernel, rfl, by decide +kernel, by decide +kernel⟩
def F_is_share : SD := (sSeq (sIf (bOr (bNot (bVal (xCall g_is_tuple_of (lCons (xVar 0) (lCons (xC (.int 2)) (lCons (xC (.int 2)) lNil)))))) (bNot (bVal (xCall g_is_whole (lCons (xIx (xVar 0) (xC (.int 0))) (lCons (xUn negD (xC (.int 1000000))) (lCons (xC (.int 1000000)) lNil))))))) (sRet (xC (.bl false))) sNext)
    (sRet (xAnd (xCall g_fits_chance (lCons (xIx (xVar 0) (xC (.int 1))) lNil)) (xBin gtD (xIx (xIx (xVar 0) (xC (.int 1))) (xC (.int 0))) (xC (.int 0))))))
def g_is_share : List D → Store → Res D := bodyD F_is_share 1
abbrev st_fits_chances : Stmt := topS 24
theorem sc_fits_chances : FnScope ["value", "share"] ["value"] (defScope st_fits_chances) := ⟨rfl, rfl, rfl, by decide +kernel, rfl, by decide +kernel, by decide +kernel⟩
abbrev C_fits_chances_1 : XD := (xLc (iSeq (xVar 0)) (gN 1) bTrue (xCall g_is_share (lCons (xVar 1) lNil)) [1])
abbrev C_fits_chances_2 : XD := (xLc (iSeq (xVar 0)) (gN 1) bTrue (xIx (xVar 1) (xC (.int 0))) [1])
abbrev C_fits_chances_3 : XD := (xLc (iSeq (xVar 0)) (gN 1) bTrue (xIx (xVar 1) (xC (.int 1))) [1])
def F_fits_chances : SD := (sSeq (sIf (bOr (bNot (bVal (xCall g_is_tuple_of (lCons (xVar 0) (lCons (xC (.int 1)) (lCons (xC (.int 40)) lNil)))))) (bNot (bVal (xCb allD (lCons C_fits_chances_1 lNil))))) (sRet (xC (.bl false))) sNext)
    (sRet (xAnd (xCall g_is_rising (lCons C_fits_chances_2 lNil)) (xBin eqD (xCall g_sum_over (lCons C_fits_chances_3 lNil)) (xC (.tup [(.int 1), (.int 1)]))))))
def g_fits_chances : List D → Store → Res D := bodyD F_fits_chances 2
abbrev st_are_chances : Stmt := topS 27
theorem sc_are_chances : FnScope ["value"] ["value"] (defScope st_are_chances) := ⟨rfl, rfl, rfl, by decide +kernel, rfl, by decide +kernel, by decide +kernel⟩
def F_are_chances : SD := (sRet (xCall g_fits_chances (lCons (xVar 0) lNil)))
def g_are_chances : List D → Store → Res D := bodyD F_are_chances 1
abbrev st_need_chances : Stmt := topS 25
theorem sc_need_chances : FnScope ["value"] ["value"] (defScope st_need_chances) := ⟨rfl, rfl, rfl, by decide +kernel, rfl, by decide +kernel, by decide +kernel⟩
def F_need_chances : SD := (sIf (bNot (bVal (xCall g_fits_chances (lCons (xVar 0) lNil)))) sFail sNext)
def g_need_chances : List D → Store → Res D := bodyD F_need_chances 1
abbrev st_mean_of : Stmt := topS 28
theorem sc_mean_of : FnScope ["chances"] ["chances"] (defScope st_mean_of) := ⟨rfl, rfl, rfl, by decide +kernel, rfl, by decide +kernel, by decide +kernel⟩
def F_mean_of : SD := (sSeq (sExpr (xCall g_need_chances (lCons (xVar 0) lNil)))
    (sRet (xCall g_mean_in (lCons (xVar 0) lNil))))
def g_mean_of : List D → Store → Res D := bodyD F_mean_of 1
abbrev st__law_right : Stmt := topS 73
theorem sc__law_right : FnScope ["cup", "plan", "rate", "points", "up", "down", "trials", "mean", "told", "many", "ups", "chance", "ups_mean", "ways", "own", "number", "part"] ["cup", "plan", "rate"] (defScope st__law_right) := ⟨rfl, rfl, rfl, by decide +kernel, rfl, by decide +kernel, by decide +kernel⟩
abbrev C__law_right_1 : XD := (xLc (iSeq (xCall g__law_points (lCons (xVar 1) lNil))) (gT (gC (gN 9) (gC (gN 10) (gC (gN 13) gE)))) bTrue (xTup (lCons (xVar 9) (lCons (xVar 10) (lCons (xCall g__law_chance (lCons (xVar 2) (lCons (xVar 9) (lCons (xVar 10) (lCons (xVar 13) lNil))))) lNil)))) [9, 10, 13])
abbrev C__law_right_2 : XD := (xLc (iSeq (xVar 3)) (gT (gC (gN 9) (gC (gN 10) (gC (gN 11) gE)))) (bVal (xBin geD (xVar 10) (xIx (xIx (xVar 1) (xBin subD (xVar 9) (xC (.int 1)))) (xC (.int 1))))) (xVar 11) [9, 10, 11])
abbrev C__law_right_3 : XD := (xLc (iSeq (xVar 3)) (gT (gC (gN 9) (gC (gN 10) (gC (gN 11) gE)))) (bVal (xBin leD (xVar 10) (xIx (xIx (xVar 1) (xBin subD (xVar 9) (xC (.int 1)))) (xC (.int 0))))) (xVar 11) [9, 10, 11])
abbrev C__law_right_4 : XD := (xLc (iSeq (xVar 3)) (gT (gC (gN 9) (gC (gN 10) (gC (gN 11) gE)))) bTrue (xVar 9) [9, 10, 11])
abbrev C__law_right_5 : XD := (xLc (iSeq (xVar 3)) (gT (gC (gN 9) (gC (gN 10) (gC (gN 11) gE)))) (bVal (xBin eqD (xVar 9) (xVar 14))) (xVar 11) [9, 10, 11])
abbrev C__law_right_6 : XD := (xLc (iSeq (xCb sortSetD (lCons C__law_right_4 lNil))) (gN 14) bTrue (xTup (lCons (xVar 14) (lCons (xCall g__law_sum (lCons C__law_right_5 lNil)) lNil))) [14])
abbrev C__law_right_7 : XD := (xLc (iSeq (xVar 6)) (gT (gC (gN 14) (gC (gN 11) gE))) bTrue (xCall g__law_least (lCons (xBin mulD (xVar 14) (xIx (xVar 11) (xC (.int 0)))) (lCons (xIx (xVar 11) (xC (.int 1))) lNil))) [14, 11])
abbrev C__law_right_8 : XD := (xLc (iSeq (xVar 3)) (gT (gC (gN 15) (gC (gN 14) (gC (gN 16) gE)))) bTrue (xCall g__law_least (lCons (xBin mulD (xVar 14) (xIx (xVar 16) (xC (.int 0)))) (lCons (xIx (xVar 16) (xC (.int 1))) lNil))) [15, 14, 16])
def F__law_right : SD := (sSeq (sAsg 3 C__law_right_1)
    (sSeq (sAsg 4 (xCall g__law_sum (lCons C__law_right_2 lNil)))
    (sSeq (sAsg 5 (xCall g__law_sum (lCons C__law_right_3 lNil)))
    (sSeq (sIf (bNot (bVal (xCall (g__law_like 12) (lCons (xLst (lCons (xCall g_chance_up (lCons (xVar 1) (lCons (xVar 2) lNil))) (lCons (xCall g_chance_down (lCons (xVar 1) (lCons (xVar 2) lNil))) (lCons (xCall g__law_plus (lCons (xVar 4) (lCons (xVar 5) lNil))) lNil)))) (lCons (xLst (lCons (xVar 4) (lCons (xVar 5) (lCons (xTup (lCons (xC (.int 1)) (lCons (xC (.int 1)) lNil))) lNil)))) lNil))))) (sRet (xC (.bl false))) sNext)
    (sSeq (sAsg 6 (xCb tupleD (lCons C__law_right_6 lNil)))
    (sSeq (sAsg 7 (xCall g__law_sum (lCons C__law_right_7 lNil)))
    (sSeq (sAsg 8 (xLst (lCons (xCall g_trial_chances (lCons (xVar 1) (lCons (xVar 2) lNil))) (lCons (xCall g_mean_trials (lCons (xVar 1) (lCons (xVar 2) lNil))) (lCons (xCall g_share_mean (lCons (xVar 1) (lCons (xVar 2) lNil))) lNil)))))
    (sSeq (sIf (bOr (bNot (bVal (xCall (g__law_like 12) (lCons (xVar 8) (lCons (xLst (lCons (xVar 6) (lCons (xVar 7) (lCons (xVar 2) lNil)))) lNil))))) (bNot (bVal (xCall (g__law_like 12) (lCons (xLst (lCons (xCall g_are_chances (lCons (xVar 6) lNil)) (lCons (xCall g_mean_of (lCons (xVar 6) lNil)) lNil))) (lCons (xLst (lCons (xC (.bl true)) (lCons (xVar 7) lNil))) lNil)))))) (sRet (xC (.bl false))) sNext)
    (sSeq (sAsgG (xCall g__law_some (lCons (xVar 0) (lCons (xVar 3) lNil))) (gT (gC (gN 9) (gC (gN 10) (gC (gN 11) gE)))))
    (sSeq (sIf (bNot (bVal (xCall (g__law_like 12) (lCons (xCall g_end_chance (lCons (xVar 1) (lCons (xVar 2) (lCons (xVar 9) (lCons (xVar 10) lNil))))) (lCons (xVar 11) lNil))))) (sRet (xC (.bl false))) sNext)
    (sSeq (sAsg 12 (xCall g__law_sum (lCons C__law_right_8 lNil)))
    (sRet (xCall (g__law_like 12) (lCons (xVar 12) (lCons (xCall g__law_times (lCons (xVar 2) (lCons (xVar 7) lNil))) lNil)))))))))))))))
def g__law_right : List D → Store → Res D := bodyD F__law_right 17
abbrev st__law_turned_right : Stmt := topS 74
theorem sc__law_turned_right : FnScope ["plan", "rate", "turned", "at", "low", "high", "other", "told"] ["plan", "rate"] (defScope st__law_turned_right) := ⟨rfl, rfl, rfl, by decide +kernel, rfl, by decide +kernel, by decide +kernel⟩
abbrev L__law_turned_right_1 : SD := (sApp 2 (xTup (lCons (xCb max2D (lCons (xUn negD (xC (.int 1))) (lCons (xBin subD (xBin addD (xVar 3) (xC (.int 1))) (xVar 5)) lNil))) (lCons (xCb min2D (lCons (xC (.int 41)) (lCons (xBin subD (xBin addD (xVar 3) (xC (.int 1))) (xVar 4)) lNil))) lNil))))
abbrev C__law_turned_right_2 : XD := (xLc (iSeq (xVar 2)) (gT (gC (gN 4) (gC (gN 5) gE))) (bNot (bVal (xBin ltD (xVar 4) (xVar 5)))) (xC (.int 1)) [4, 5])
def F__law_turned_right : SD := (sSeq (sAsgF 2 (xLst lNil))
    (sSeq (sFor (wEnumA (xVar 0)) (gT (gC (gN 3) (gC (gT (gC (gN 4) (gC (gN 5) gE))) gE))) L__law_turned_right_1)
    (sSeq (sFrz 2 (sIf (bOr (bVal (xBin neD C__law_turned_right_2 (xLst lNil))) (bVal (xBin neD (xIx (xIxO 2 (xUn negD (xC (.int 1)))) (xC (.int 1))) (xBin addD (xIx (xIxO 2 (xUn negD (xC (.int 1)))) (xC (.int 0))) (xC (.int 1)))))) (sRet (xC (.bl true))) sNext))
    (sSeq (sAsg 6 (xTup (lCons (xBin subD (xIx (xVar 1) (xC (.int 1))) (xIx (xVar 1) (xC (.int 0)))) (lCons (xIx (xVar 1) (xC (.int 1))) lNil))))
    (sSeq (sFrz 2 (sAsg 7 (xLst (lCons (xCall g_chance_up (lCons (xCb tupleD (lCons (xVar 2) lNil)) (lCons (xVar 6) lNil))) (lCons (xCall g_chance_down (lCons (xCb tupleD (lCons (xVar 2) lNil)) (lCons (xVar 6) lNil))) (lCons (xCall g_mean_trials (lCons (xCb tupleD (lCons (xVar 2) lNil)) (lCons (xVar 6) lNil))) lNil))))))
    (sRet (xCall (g__law_like 12) (lCons (xVar 7) (lCons (xLst (lCons (xCall g_chance_down (lCons (xVar 0) (lCons (xVar 1) lNil))) (lCons (xCall g_chance_up (lCons (xVar 0) (lCons (xVar 1) lNil))) (lCons (xCall g_mean_trials (lCons (xVar 0) (lCons (xVar 1) lNil))) lNil)))) lNil)))))))))
def g__law_turned_right : List D → Store → Res D := bodyD F__law_turned_right 8
abbrev st_law : Stmt := topS 75
theorem sc_law : FnScope ["script", "cup", "some", "told", "most", "plan", "rate", "many", "down", "waited"] ["script"] (defScope st_law) := ⟨rfl, rfl, rfl, by decide +kernel, rfl, by decide +kernel, by decide +kernel⟩
abbrev L_law_1 : SD := (sSeq (sPar [5, 6] (mVal (xCall g__law_plan (lCons (xVar 1) (lCons (xVar 4) lNil))) (mVal (xCall g__law_rate (lCons (xVar 1) lNil)) mNil)))
    (sSeq (sIf (bVal (xBin eqD (xVar 4) (xC (.int 40)))) (sPar [5, 6] (mVal (xBin addD (xBin mulT (xTup (lCons (xTup (lCons (xUn negD (xC (.int 1))) (lCons (xC (.int 41)) lNil))) lNil)) (xBin subD (xC (.int 40)) (xCb lenD (lCons (xVar 5) lNil)))) (xVar 5)) (mVal (xCall g__law_least (lCons (xC (.int 1)) (lCons (xBin addD (xC (.int 2)) (xCall g__law_roll (lCons (xVar 1) (lCons (xC (.int 3)) lNil)))) lNil))) mNil))) sNext)
    (sIf (bOr (bNot (bVal (xCall g__law_right (lCons (xVar 1) (lCons (xVar 5) (lCons (xVar 6) lNil)))))) (bNot (bVal (xCall g__law_turned_right (lCons (xVar 5) (lCons (xVar 6) lNil)))))) (sRet (xC (.bl false))) sNext)))
def F_law : SD := (sSeq (sAsgF 1 (xCall g__law_cup (lCons (xVar 0) lNil))) (sProm 1 (sSeq (sAsg 2 (xTup (lCons (xTup (lCons (xUn negD (xC (.int 1))) (lCons (xC (.int 2)) lNil))) (lCons (xTup (lCons (xC (.int 0)) (lCons (xC (.int 2)) lNil))) (lCons (xTup (lCons (xC (.int 1)) (lCons (xC (.int 2)) lNil))) lNil)))))
    (sSeq (sAsg 3 (xLst (lCons (xCall g_chance_up (lCons (xVar 2) (lCons (xTup (lCons (xC (.int 1)) (lCons (xC (.int 2)) lNil))) lNil))) (lCons (xCall g_chance_down (lCons (xVar 2) (lCons (xTup (lCons (xC (.int 1)) (lCons (xC (.int 3)) lNil))) lNil))) (lCons (xCall g_trial_chances (lCons (xVar 2) (lCons (xTup (lCons (xC (.int 1)) (lCons (xC (.int 2)) lNil))) lNil))) (lCons (xCall g_mean_trials (lCons (xVar 2) (lCons (xTup (lCons (xC (.int 1)) (lCons (xC (.int 3)) lNil))) lNil))) lNil))))))
    (sSeq (sAsg 3 (xBin addD (xVar 3) (xLst (lCons (xCall g_end_chance (lCons (xVar 2) (lCons (xTup (lCons (xC (.int 1)) (lCons (xC (.int 3)) lNil))) (lCons (xC (.int 3)) (lCons (xC (.int 1)) lNil))))) (lCons (xCall g_share_mean (lCons (xVar 2) (lCons (xTup (lCons (xC (.int 2)) (lCons (xC (.int 5)) lNil))) lNil))) lNil)))))
    (sSeq (sIf (bNot (bVal (xCall (g__law_like 12) (lCons (xVar 3) (lCons (xLst (lCons (xTup (lCons (xC (.int 1)) (lCons (xC (.int 2)) lNil))) (lCons (xTup (lCons (xC (.int 20)) (lCons (xC (.int 27)) lNil))) (lCons (xTup (lCons (xTup (lCons (xC (.int 2)) (lCons (xTup (lCons (xC (.int 1)) (lCons (xC (.int 2)) lNil))) lNil))) (lCons (xTup (lCons (xC (.int 3)) (lCons (xTup (lCons (xC (.int 1)) (lCons (xC (.int 2)) lNil))) lNil))) lNil))) (lCons (xTup (lCons (xC (.int 22)) (lCons (xC (.int 9)) lNil))) (lCons (xTup (lCons (xC (.int 8)) (lCons (xC (.int 27)) lNil))) (lCons (xTup (lCons (xC (.int 2)) (lCons (xC (.int 5)) lNil))) lNil))))))) lNil))))) (sRet (xC (.bl false))) sNext)
    (sSeq (sFor (iSeq (xBin addD (xTup (lCons (xC (.int 2)) (lCons (xC (.int 5)) (lCons (xC (.int 12)) (lCons (xC (.int 24)) lNil))))) (xIf (bVal (xBin eqD (xCall g__law_roll (lCons (xVar 1) (lCons (xC (.int 6)) lNil))) (xC (.int 0)))) (xTup (lCons (xC (.int 40)) lNil)) (xTup lNil)))) (gN 4) L_law_1)
    (sSeq (sPar [7, 6] (mVal (xBin addD (xC (.int 1)) (xCall g__law_roll (lCons (xVar 1) (lCons (xC (.int 40)) lNil)))) (mVal (xCall g__law_rate (lCons (xVar 1) lNil)) mNil)))
    (sSeq (sAsg 5 (xBin addD (xBin mulT (xTup (lCons (xTup (lCons (xUn negD (xC (.int 1))) (lCons (xC (.int 1)) lNil))) lNil)) (xBin subD (xVar 7) (xC (.int 1)))) (xTup (lCons (xTup (lCons (xC (.int 0)) (lCons (xC (.int 1)) lNil))) lNil))))
    (sSeq (sAsg 8 (xCall g__law_least (lCons (xCall g__law_power (lCons (xBin subD (xIx (xVar 6) (xC (.int 1))) (xIx (xVar 6) (xC (.int 0)))) (lCons (xVar 7) lNil))) (lCons (xCall g__law_power (lCons (xIx (xVar 6) (xC (.int 1))) (lCons (xVar 7) lNil))) lNil))))
    (sSeq (sAsg 9 (xCall g__law_times (lCons (xCall g__law_plus (lCons (xTup (lCons (xC (.int 1)) (lCons (xC (.int 1)) lNil))) (lCons (xTup (lCons (xBin subD (xC (.int 0)) (xIx (xVar 8) (xC (.int 0)))) (lCons (xIx (xVar 8) (xC (.int 1))) lNil))) lNil))) (lCons (xTup (lCons (xIx (xVar 6) (xC (.int 1))) (lCons (xIx (xVar 6) (xC (.int 0))) lNil))) lNil))))
    (sRet (xCall (g__law_like 12) (lCons (xLst (lCons (xCall g_chance_down (lCons (xVar 5) (lCons (xVar 6) lNil))) (lCons (xCall g_mean_trials (lCons (xVar 5) (lCons (xVar 6) lNil))) (lCons (xCall g_begun_share (lCons (xVar 5) (lCons (xC (.int 1)) (lCons (xC (.int 1)) lNil)))) lNil)))) (lCons (xLst (lCons (xVar 8) (lCons (xVar 9) (lCons (xTup (lCons (xC (.int 1)) (lCons (xC (.int 1)) lNil))) lNil)))) lNil)))))))))))))))
def g_law : List D → Store → Res D := bodyD F_law 10
end K77
set_option Elab.async false
set_option linter.all false
set_option maxRecDepth 100000
set_option maxHeartbeats 2000000
/-! DC: denotations evaluated. -/
namespace DC
open PySem
section
variable {α β : Type}
@[simp] theorem ev_bind_ok (a : α) (μ : Store) (k : α → Store → Res β) : (Res.ok a μ).bind k = k a μ := rfl
@[simp] theorem ev_bind_fail (k : α → Store → Res β) : (Res.fail : Res α).bind k = .fail := rfl
@[simp] theorem ev_bind_exc (x : Exn) (μ : Store) (k : α → Store → Res β) : (Res.exc x μ : Res α).bind k = .exc x μ := rfl
@[simp] theorem ev_st_ok (a : α) (μ : Store) (ρ : Env) (k : α → Store → SRes) : (Res.ok a μ).st ρ k = k a μ := rfl
@[simp] theorem ev_ofO_some (a : α) (μ : Store) : Res.ofO (some a) μ = .ok a μ := rfl
@[simp] theorem ev_ofO_none (μ : Store) : (Res.ofO none μ : Res α) = .fail := rfl
end
section
variable {ρ ρ' : Env} {μ μ' : Store} {f f1 f2 f3 f4 : XD} {fs : XL} {t t1 t2 : XB} {F G : SD} {g g' g'' : D → D → Option D}
/-- a slot read -/
def slV (s : Option Sl) (μ : Store) : Res D := match s with
  | some (.fz d) => .ok d μ
  | _ => .fail
@[simp] theorem slV_fz (d : D) : slV (some (.fz d)) μ = .ok d μ := rfl
@[simp] theorem ev_var (i : Nat) : xVar i ρ μ = slV ρ[i]? μ := rfl
@[simp] theorem ev_C (d : D) : xC d ρ μ = .ok d μ := rfl
@[simp] theorem ev_bin : xBin g f1 f2 ρ μ = (f1 ρ μ).bind fun a μ1 => (f2 ρ μ1).bind fun b μ2 => Res.ofO (g a b) μ2 := rfl
@[simp] theorem ev_un {h : D → Option D} : xUn h f ρ μ = (f ρ μ).bind fun a μ1 => Res.ofO (h a) μ1 := rfl
@[simp] theorem ev_chain : xChain g g' f1 f2 f3 ρ μ = (f1 ρ μ).bind fun a μ1 => (f2 ρ μ1).bind fun b μ2 => (Res.ofO ((g a b).bind asB) μ2).bind fun k μ2 =>
  if k then (f3 ρ μ2).bind fun c μ3 => Res.ofO (g' b c) μ3 else .ok (.bl false) μ2 := rfl
@[simp] theorem ev_chain3 : xChain3 g g' g'' f1 f2 f3 f4 ρ μ = (f1 ρ μ).bind fun a μ1 => (f2 ρ μ1).bind fun b μ2 => (Res.ofO ((g a b).bind asB) μ2).bind fun k μ2 =>
  if k then (f3 ρ μ2).bind fun c μ3 => (Res.ofO ((g' b c).bind asB) μ3).bind fun k2 μ3 => if k2 then (f4 ρ μ3).bind fun d μ4 => Res.ofO (g'' c d) μ4 else .ok (.bl false) μ3 else .ok (.bl false) μ2 := rfl
@[simp] theorem ev_and : xAnd f1 f2 ρ μ = (f1 ρ μ).bind fun a μ1 => (Res.ofO (asB a) μ1).bind fun k μ1 => if k then f2 ρ μ1 else .ok (.bl false) μ1 := rfl
@[simp] theorem ev_or : xOr f1 f2 ρ μ = (f1 ρ μ).bind fun a μ1 => (Res.ofO (asB a) μ1).bind fun k μ1 => if k then .ok (.bl true) μ1 else f2 ρ μ1 := rfl
@[simp] theorem ev_not : xNot f ρ μ = (f ρ μ).bind fun a μ1 => (Res.ofO (asB a) μ1).bind fun k μ1 => .ok (.bl (!k)) μ1 := rfl
@[simp] theorem ev_if : xIf t f1 f2 ρ μ = (t ρ μ).bind fun k μ1 => if k then f1 ρ μ1 else f2 ρ μ1 := rfl
@[simp] theorem ev_bVal : bVal f ρ μ = (f ρ μ).bind fun a μ1 => Res.ofO (asB a) μ1 := rfl
@[simp] theorem ev_bAnd : bAnd t1 t2 ρ μ = (t1 ρ μ).bind fun k μ1 => if k then t2 ρ μ1 else .ok false μ1 := rfl
@[simp] theorem ev_bOr : bOr t1 t2 ρ μ = (t1 ρ μ).bind fun k μ1 => if k then .ok true μ1 else t2 ρ μ1 := rfl
@[simp] theorem ev_bNot : bNot t ρ μ = (t ρ μ).bind fun k μ1 => .ok (!k) μ1 := rfl
@[simp] theorem ev_bTrue : bTrue ρ μ = .ok true μ := rfl
@[simp] theorem ev_asB (b : Bool) : asB (.bl b) = some b := rfl
@[simp] theorem ev_lNil : lNil ρ μ = .ok [] μ := rfl
@[simp] theorem ev_lCons : lCons f fs ρ μ = (f ρ μ).bind fun d μ1 => (fs ρ μ1).bind fun ds μ2 => .ok (d :: ds) μ2 := rfl
@[simp] theorem ev_tup : xTup fs ρ μ = (fs ρ μ).bind fun ds μ1 => if lenOk ds then .ok (.tup ds) μ1 else .fail := rfl
@[simp] theorem ev_lst : xLst fs ρ μ = (fs ρ μ).bind fun ds μ1 => if lenOk ds then .ok (.lst ds) μ1 else .fail := rfl
@[simp] theorem ev_call {h : List D → Store → Res D} : xCall h fs ρ μ = (fs ρ μ).bind fun ds μ1 => h ds μ1 := rfl
@[simp] theorem ev_cb {h : List D → Option D} : xCb h fs ρ μ = (fs ρ μ).bind fun ds μ1 => Res.ofO (h ds) μ1 := rfl
@[simp] theorem ev_ix : xIx f1 f2 ρ μ = (f1 ρ μ).bind fun a μ1 => (f2 ρ μ1).bind fun b μ2 => Res.ofO (ixS μ2 a b) μ2 := rfl
@[simp] theorem ev_sl {l h : Env → Store → Res (Option Int)} : xSl f l h ρ μ = (f ρ μ).bind fun a μ1 => (l ρ μ1).bind fun lo μ2 => (h ρ μ2).bind fun hi μ3 => Res.ofO (slT a lo hi) μ3 := rfl
@[simp] theorem ev_oNone : oNone ρ μ = .ok none μ := rfl
@[simp] theorem ev_oSome : oSome f ρ μ = (f ρ μ).bind fun d μ' => match d with
  | .int i => .ok (some i) μ'
  | _ => .fail := rfl
/-! statements -/
def SRes.seq (r : SRes) (G : SD) : SRes := match r with
  | .nx ρ μ => G ρ μ
  | r => r
@[simp] theorem seq_nx : (SRes.nx ρ μ).seq G = G ρ μ := rfl
@[simp] theorem seq_rt (d : D) : (SRes.rt d μ).seq G = .rt d μ := rfl
@[simp] theorem seq_bk : (SRes.bk ρ μ).seq G = .bk ρ μ := rfl
@[simp] theorem seq_ct : (SRes.ct ρ μ).seq G = .ct ρ μ := rfl
@[simp] theorem seq_fail : SRes.fail.seq G = .fail := rfl
@[simp] theorem ev_next : sNext ρ μ = .nx ρ μ := rfl
@[simp] theorem ev_seq : sSeq F G ρ μ = (F ρ μ).seq G := by
  unfold sSeq SRes.seq
  cases F ρ μ <;> rfl
@[simp] theorem ev_asg (i : Nat) : sAsg i f ρ μ = (f ρ μ).st ρ fun d μ' => .nx (ρ.set i (.fz d)) μ' := rfl
@[simp] theorem ev_asgF (i : Nat) : sAsgF i f ρ μ = (f ρ μ).st ρ fun d μ' => .nx (ρ.set i (.ow d)) μ' := rfl
@[simp] theorem ev_ret : sRet f ρ μ = (f ρ μ).st ρ fun d μ' => .rt d μ' := rfl
@[simp] theorem ev_retN : sRetN ρ μ = .rt .non μ := rfl
@[simp] theorem ev_sIf : sIf t F G ρ μ = (t ρ μ).st ρ fun b μ' => if b then F ρ μ' else G ρ μ' := rfl
@[simp] theorem ev_expr : sExpr f ρ μ = (f ρ μ).st ρ fun _ μ' => .nx ρ μ' := rfl
def frzE (ρ : Env) (i : Nat) : Env := match ρ[i]? with
  | some (.ow d) => ρ.set i (.fz d)
  | _ => ρ
@[simp] theorem ev_frz (i : Nat) : sFrz i F ρ μ = F (frzE ρ i) μ := by
  unfold sFrz frzE
  cases ρ[i]? with
  | none => rfl
  | some s => cases s <;> rfl
def appE (s : Option Sl) (i : Nat) (d : D) (ρ : Env) (μ : Store) : SRes := match s with
  | some (.ow (.lst ds)) => if Nat.ble ds.length 1000000 then .nx (ρ.set i (.ow (.lst (ds ++ [d])))) μ else .fail
  | _ => .fail
@[simp] theorem appE_ow (i : Nat) (d : D) (ds : List D) : appE (some (.ow (.lst ds))) i d ρ μ = if Nat.ble ds.length 1000000 then .nx (ρ.set i (.ow (.lst (ds ++ [d])))) μ else .fail := rfl
theorem ev_app {i : Nat} {ds : List D} {d : D} (h : ρ[i]? = some (.ow (.lst ds))) (hf : f ρ μ = .ok d μ') (hl : ds.length ≤ 1000000) : sApp i f ρ μ = .nx (ρ.set i (.ow (.lst (ds ++ [d])))) μ' := by
  unfold sApp
  rw [h, hf]
  show (if Nat.ble ds.length 1000000 = true then _ else _) = _
  rw [if_pos (Nat.ble_eq.mpr hl)]
@[simp] theorem ev_for {src : XL} {tg : Tg} : sFor src tg F ρ μ = (src ρ μ).st ρ fun ds μ' => sForL tg F ds ρ μ' := rfl
@[simp] theorem ev_gN (i : Nat) (d : D) : gN i d ρ = some (ρ.set i (.fz d)) := rfl
@[simp] theorem ev_gE : gE [] ρ = some ρ := rfl
@[simp] theorem ev_gC (tg : Tg) (gs : Tgs) (d : D) (ds : List D) : gC tg gs (d :: ds) ρ = (tg d ρ).bind fun ρ' => gs ds ρ' := rfl
@[simp] theorem ev_gT (gs : Tgs) (ds : List D) : gT gs (.tup ds) ρ = gs ds ρ := rfl
@[simp] theorem ev_seq_src : iSeq f ρ μ = (f ρ μ).bind fun d μ' => Res.ofO (iSeqD d) μ' := rfl
@[simp] theorem ev_iSeqD_lst (ds : List D) : iSeqD (.lst ds) = some ds := rfl
@[simp] theorem ev_iSeqD_tup (ds : List D) : iSeqD (.tup ds) = some ds := rfl
@[simp] theorem ev_iSeqD_str (z : Str) : iSeqD (.str z) = some (strD z) := rfl
@[simp] theorem ev_forL_nil {tg : Tg} : sForL tg F [] ρ μ = .nx ρ μ := rfl
/-- loops by a relation -/
theorem forL_rel {tg : Tg} {ds : List D} (R : Nat → Env → Store → Prop) (h0 : R 0 ρ μ)
    (hs : ∀ i d ρ μ, ds[i]? = some d → R i ρ μ → ∃ ρ1 ρ' μ', tg d ρ = some ρ1 ∧ F ρ1 μ = .nx ρ' μ' ∧ R (i + 1) ρ' μ') : ∃ ρ' μ', sForL tg F ds ρ μ = .nx ρ' μ' ∧ R ds.length ρ' μ' := by
  induction ds generalizing ρ μ R with
  | nil => exact ⟨ρ, μ, rfl, h0⟩
  | cons d ds ih =>
    obtain ⟨ρ1, ρ2, μ2, e1, e2, h1⟩ := hs 0 d ρ μ rfl h0
    obtain ⟨ρ3, μ3, e3, h3⟩ := ih (ρ := ρ2) (μ := μ2) (fun i => R (i + 1)) h1 fun i d' ρ μ hd hR => hs (i + 1) d' ρ μ (by simpa using hd) hR
    refine ⟨ρ3, μ3, ?_, h3⟩
    unfold sForL
    rw [e1]
    show (match F ρ1 μ with
      | .nx ρ' μ' => sForL tg F ds ρ' μ'
      | .ct ρ' μ' => sForL tg F ds ρ' μ'
      | .bk ρ' μ' => SRes.nx ρ' μ'
      | r => r) = _
    rw [e2]
    exact e3
theorem forL_cons {tg : Tg} {d : D} {ds : List D} {ρ1 ρ2 : Env} {μ2 : Store} (e1 : tg d ρ = some ρ1) (e2 : F ρ1 μ = .nx ρ2 μ2) : sForL tg F (d :: ds) ρ μ = sForL tg F ds ρ2 μ2 := by
  show (match tg d ρ with
    | none => SRes.fail
    | some ρ1 => match F ρ1 μ with
      | .nx ρ' μ' => sForL tg F ds ρ' μ'
      | .ct ρ' μ' => sForL tg F ds ρ' μ'
      | .bk ρ' μ' => SRes.nx ρ' μ'
      | r => r) = _
  rw [e1]
  show (match F ρ1 μ with
      | .nx ρ' μ' => sForL tg F ds ρ' μ'
      | .ct ρ' μ' => sForL tg F ds ρ' μ'
      | .bk ρ' μ' => SRes.nx ρ' μ'
      | r => r) = _
  rw [e2]
theorem forL_rt {tg : Tg} {d r : D} {ds : List D} {ρ1 : Env} {μ2 : Store} (e1 : tg d ρ = some ρ1) (e2 : F ρ1 μ = .rt r μ2) : sForL tg F (d :: ds) ρ μ = .rt r μ2 := by
  show (match tg d ρ with
    | none => SRes.fail
    | some ρ1 => match F ρ1 μ with
      | .nx ρ' μ' => sForL tg F ds ρ' μ'
      | .ct ρ' μ' => sForL tg F ds ρ' μ'
      | .bk ρ' μ' => SRes.nx ρ' μ'
      | r => r) = _
  rw [e1]
  show (match F ρ1 μ with
      | .nx ρ' μ' => sForL tg F ds ρ' μ'
      | .ct ρ' μ' => sForL tg F ds ρ' μ'
      | .bk ρ' μ' => SRes.nx ρ' μ'
      | r => r) = _
  rw [e2]
/-- comprehensions that change nothing -/
theorem lcL_map {tg : Tg} {e : XD} {ρw : Env} (p : D → Bool) (h : D → D) : ∀ {ds : List D}, (∀ d, d ∈ ds → ∃ ρ2, tg d ρw = some ρ2 ∧ t ρ2 μ = .ok (p d) μ ∧ (p d = true → e ρ2 μ = .ok (h d) μ)) → lcL tg t e ρw ds μ = .ok ((ds.filter p).map h) μ
  | [], _ => rfl
  | d :: ds, hh => by
    obtain ⟨ρ2, e1, e2, e3⟩ := hh d (by simp)
    have ih := lcL_map p h (ds := ds) fun x hx => hh x (List.mem_cons_of_mem _ hx)
    unfold lcL
    rw [e1]
    show (match t ρ2 μ with
      | .ok true μ1 => (match e ρ2 μ1 with
        | .ok y μ2 => (match lcL tg t e ρw ds μ2 with
          | .ok ys μ3 => Res.ok (y :: ys) μ3
          | _ => Res.fail)
        | _ => Res.fail)
      | .ok false μ1 => lcL tg t e ρw ds μ1
      | _ => Res.fail) = _
    rw [e2]
    cases hp : p d with
    | false =>
      rw [List.filter_cons_of_neg (by rw [hp]; decide)]
      exact ih
    | true =>
      rw [List.filter_cons_of_pos hp]
      show (match e ρ2 μ with
        | .ok y μ2 => (match lcL tg t e ρw ds μ2 with
          | .ok ys μ3 => Res.ok (y :: ys) μ3
          | _ => Res.fail)
        | _ => Res.fail) = _
      rw [e3 hp]
      show (match lcL tg t e ρw ds μ with
          | .ok ys μ3 => Res.ok (h d :: ys) μ3
          | _ => Res.fail) = _
      rw [ih]
      rfl
theorem ev_lc {src : XL} {tg : Tg} {e : XD} {vs : List Nat} {ds : List D} (p : D → Bool) (h : D → D) (hs : src ρ μ = .ok ds μ') (hv : vsOk ρ vs = true) (hl : ds.length ≤ 1000000)
    (hh : ∀ d, d ∈ ds → ∃ ρ2, tg d (wipeE ρ vs) = some ρ2 ∧ t ρ2 μ' = .ok (p d) μ' ∧ (p d = true → e ρ2 μ' = .ok (h d) μ')) : xLc src tg t e vs ρ μ = .ok (.lst ((ds.filter p).map h)) μ' := by
  unfold xLc
  rw [hs]
  show (if (vsOk ρ vs && lenOk ds) = true then (match lcL tg t e (wipeE ρ vs) ds μ' with
    | .ok ys μ2 => Res.ok (D.lst ys) μ2
    | _ => Res.fail) else Res.fail) = _
  rw [if_pos (by rw [hv, Bool.true_and]; exact Nat.ble_eq.mpr hl), lcL_map p h hh]
theorem filter_tt {α : Type} (l : List α) : l.filter (fun _ => true) = l := by
  induction l with
  | nil => rfl
  | cons a l ih => rw [List.filter_cons_of_pos rfl, ih]
/-- no test -/
theorem ev_lcT {src : XL} {tg : Tg} {e : XD} {vs : List Nat} {ds : List D} (h : D → D) (hs : src ρ μ = .ok ds μ') (hv : vsOk ρ vs = true) (hl : ds.length ≤ 1000000)
    (hh : ∀ d, d ∈ ds → ∃ ρ2, tg d (wipeE ρ vs) = some ρ2 ∧ e ρ2 μ' = .ok (h d) μ') : xLc src tg bTrue e vs ρ μ = .ok (.lst (ds.map h)) μ' := by
  have := ev_lc (t := bTrue) (p := fun _ => true) h hs hv hl fun d hd => by
    obtain ⟨ρ2, e1, e2⟩ := hh d hd
    exact ⟨ρ2, e1, rfl, fun _ => e2⟩
  rw [filter_tt] at this
  exact this
end
/-! bodies -/
def SRes.fin (r : SRes) : Res D := match r with
  | .rt d μ' => .ok d μ'
  | .nx _ μ' => .ok .non μ'
  | .exc x _ μ' => .exc x μ'
  | _ => .fail
@[simp] theorem fin_rt (d : D) (μ : Store) : (SRes.rt d μ).fin = .ok d μ := rfl
@[simp] theorem fin_nx (ρ : Env) (μ : Store) : (SRes.nx ρ μ).fin = .ok .non μ := rfl
@[simp] theorem ev_body (F : SD) (n : Nat) (ds : List D) (μ : Store) : bodyD F n ds μ = (F (entry n ds) μ).fin := rfl
@[simp] theorem ev_entry (n : Nat) (ds : List D) : entry n ds = ds.map Sl.fz ++ List.replicate (n - ds.length) Sl.no := rfl
@[simp] theorem ev_lenOk {α : Type} (xs : List α) : lenOk xs = Nat.ble xs.length 1000000 := rfl
@[simp] theorem ev_cmpI (p : Int → Int → Bool) (i j : Int) : cmpI p (.int i) (.int j) = some (.bl (p i j)) := rfl
@[simp] theorem ev_addI (i j : Int) : addD (.int i) (.int j) = some (.int (i + j)) := rfl
@[simp] theorem ev_subI (i j : Int) : subD (.int i) (.int j) = some (.int (i - j)) := rfl
@[simp] theorem ev_neg (i : Int) : negD (.int i) = some (.int (-i)) := rfl
@[simp] theorem ev_int (i : Int) : intD [.int i] = some (.int i) := rfl
@[simp] theorem ev_abs (i : Int) : absD [.int i] = some (.int (if i < 0 then -i else i)) := rfl
theorem ev_mul {i j : Int} (h : mulOk i j = true) : mulD (.int i) (.int j) = some (.int (i * j)) := by
  show (if mulOk i j = true then some (D.int (i * j)) else none) = _
  rw [if_pos h]
theorem small64_of {i : Int} (h : i.natAbs < 18446744073709551616) : small64 i = true := Nat.ble_eq.mpr h
theorem mulOk_r {i j : Int} (h : j.natAbs < 18446744073709551616) : mulOk i j = true := by
  unfold mulOk
  rw [small64_of h, Bool.or_true, Bool.true_or]
theorem mulOk_l {i j : Int} (h : i.natAbs < 18446744073709551616) : mulOk i j = true := by
  unfold mulOk
  rw [small64_of h, Bool.true_or, Bool.true_or]
theorem ev_mod {i j : Int} (h : 0 < j) : modD (.int i) (.int j) = some (.int (i % j)) := by
  show (if decide (0 < j) = true then some (D.int (i % j)) else none) = _
  rw [if_pos (decide_eq_true h)]
set_option exponentiation.threshold 10 in
theorem pow_big : (1000000000000000000 : Nat) < 2 ^ 8999 := Nat.lt_of_lt_of_le (show 1000000000000000000 < 2 ^ 60 by decide) (Nat.pow_le_pow_right (by decide) (by decide))
theorem ev_div {i j : Int} (h : 0 < j) (h2 : j < 1000000000000000000) : divD (.int i) (.int j) = some (.int (i / j)) := by
  show (if (decide (0 < j) && Nat.blt j.natAbs (2 ^ 8999)) = true then some (D.int (i / j)) else _) = _
  have : Nat.blt j.natAbs (2 ^ 8999) = true := Nat.ble_eq.mpr (Nat.lt_trans (by omega) pow_big)
  rw [this, decide_eq_true h]
  rfl
theorem ev_setI {ρ : Env} {μ μ1 μ2 : Store} {i n p : Nat} {fi fe : XD} {z j : Int} {ns : List Int} (h0 : ρ[i]? = some (.fz (.own n))) (he : fe ρ μ = .ok (.int z) μ1) (hi : fi ρ μ1 = .ok (.int j) μ2) (hn : μ2[n]? = some ns) (hp : L2.ixN ns.length j = some p) : sSetI i fi fe ρ μ = .nx ρ (μ2.set n (ns.set p z)) := by
  unfold sSetI
  rw [he]
  simp only [ev_st_ok, h0]
  rw [hi]
  simp only [ev_st_ok, hn, hp]
end DC
set_option Elab.async false
set_option linter.all false
set_option maxRecDepth 100000
set_option maxHeartbeats 4000000
namespace K77
open PySem PySem.Spec PyProof.Rows L2 DC
structure Txt (K : PySem.W.Frag) (mg : Str → Option Value) (ad : Nat → Addr) (fd : Nat → FuncData) : Prop where
  m__law_cup : mg "_law_cup" = some (.ref (ad 0))
  k__law_cup : PySem.W.keepIn K (.ref (ad 0)) = true
  b__law_cup : Binds K (fd 0) ["script"] []
  m__law_divisor : mg "_law_divisor" = some (.ref (ad 1))
  k__law_divisor : PySem.W.keepIn K (.ref (ad 1)) = true
  b__law_divisor : Binds K (fd 1) ["one", "other"] []
  m__law_least : mg "_law_least" = some (.ref (ad 2))
  k__law_least : PySem.W.keepIn K (.ref (ad 2)) = true
  b__law_least : Binds K (fd 2) ["above", "below"] []
  m__law_times : mg "_law_times" = some (.ref (ad 3))
  k__law_times : PySem.W.keepIn K (.ref (ad 3)) = true
  b__law_times : Binds K (fd 3) ["one", "other"] []
  m__law_sort : mg "_law_sort" = some (.ref (ad 4))
  k__law_sort : PySem.W.keepIn K (.ref (ad 4)) = true
  b__law_sort : Binds K (fd 4) ["value"] []
  m__law_like : mg "_law_like" = some (.ref (ad 5))
  k__law_like : PySem.W.keepIn K (.ref (ad 5)) = true
  b__law_like : Binds K (fd 5) ["one", "other"] []
  m_is_tuple_of : mg "is_tuple_of" = some (.ref (ad 6))
  k_is_tuple_of : PySem.W.keepIn K (.ref (ad 6)) = true
  b_is_tuple_of : Binds K (fd 6) ["value", "low", "high"] []
  m_is_integer : mg "is_integer" = some (.ref (ad 7))
  k_is_integer : PySem.W.keepIn K (.ref (ad 7)) = true
  b_is_integer : Binds K (fd 7) ["value"] []
  m_is_whole : mg "is_whole" = some (.ref (ad 8))
  k_is_whole : PySem.W.keepIn K (.ref (ad 8)) = true
  b_is_whole : Binds K (fd 8) ["value", "low", "high"] []
  m_fits_bounds : mg "fits_bounds" = some (.ref (ad 9))
  k_fits_bounds : PySem.W.keepIn K (.ref (ad 9)) = true
  b_fits_bounds : Binds K (fd 9) ["value"] []
  m_fits_end_plan : mg "fits_end_plan" = some (.ref (ad 10))
  k_fits_end_plan : PySem.W.keepIn K (.ref (ad 10)) = true
  b_fits_end_plan : Binds K (fd 10) ["value"] []
  m_need_end_plan : mg "need_end_plan" = some (.ref (ad 11))
  k_need_end_plan : PySem.W.keepIn K (.ref (ad 11)) = true
  b_need_end_plan : Binds K (fd 11) ["value"] []
  m_divisor_of : mg "divisor_of" = some (.ref (ad 12))
  k_divisor_of : PySem.W.keepIn K (.ref (ad 12)) = true
  b_divisor_of : Binds K (fd 12) ["one", "other"] []
  m_fits_fraction : mg "fits_fraction" = some (.ref (ad 13))
  k_fits_fraction : PySem.W.keepIn K (.ref (ad 13)) = true
  b_fits_fraction : Binds K (fd 13) ["value"] []
  m_fits_chance : mg "fits_chance" = some (.ref (ad 14))
  k_fits_chance : PySem.W.keepIn K (.ref (ad 14)) = true
  b_fits_chance : Binds K (fd 14) ["value"] []
  m_need_up_rate : mg "need_up_rate" = some (.ref (ad 15))
  k_need_up_rate : PySem.W.keepIn K (.ref (ad 15)) = true
  b_need_up_rate : Binds K (fd 15) ["value"] []
  m_need_plan_at : mg "need_plan_at" = some (.ref (ad 16))
  k_need_plan_at : PySem.W.keepIn K (.ref (ad 16)) = true
  b_need_plan_at : Binds K (fd 16) ["plan", "rate"] []
  m_lowest : mg "lowest" = some (.ref (ad 17))
  k_lowest : PySem.W.keepIn K (.ref (ad 17)) = true
  b_lowest : Binds K (fd 17) ["above", "below"] []
  m_many_times : mg "many_times" = some (.ref (ad 18))
  k_many_times : PySem.W.keepIn K (.ref (ad 18)) = true
  b_many_times : Binds K (fd 18) ["number", "times"] []
  m_point_chance : mg "point_chance" = some (.ref (ad 19))
  k_point_chance : PySem.W.keepIn K (.ref (ad 19)) = true
  b_point_chance : Binds K (fd 19) ["rate", "many", "ups", "ways"] []
  m_layers_of_plan : mg "layers_of_plan" = some (.ref (ad 20))
  k_layers_of_plan : PySem.W.keepIn K (.ref (ad 20)) = true
  b_layers_of_plan : Binds K (fd 20) ["plan"] []
  m_points_in_plan : mg "points_in_plan" = some (.ref (ad 21))
  k_points_in_plan : PySem.W.keepIn K (.ref (ad 21)) = true
  b_points_in_plan : Binds K (fd 21) ["plan"] []
  m_chances_of_points : mg "chances_of_points" = some (.ref (ad 22))
  k_chances_of_points : PySem.W.keepIn K (.ref (ad 22)) = true
  b_chances_of_points : Binds K (fd 22) ["plan", "rate"] []
  m_sum_in : mg "sum_in" = some (.ref (ad 23))
  k_sum_in : PySem.W.keepIn K (.ref (ad 23)) = true
  b_sum_in : Binds K (fd 23) ["one", "other"] []
  m_sum_over : mg "sum_over" = some (.ref (ad 24))
  k_sum_over : PySem.W.keepIn K (.ref (ad 24)) = true
  b_sum_over : Binds K (fd 24) ["fractions"] []
  m_part_up : mg "part_up" = some (.ref (ad 25))
  k_part_up : PySem.W.keepIn K (.ref (ad 25)) = true
  b_part_up : Binds K (fd 25) ["plan", "rate", "is_up"] []
  m_chance_up : mg "chance_up" = some (.ref (ad 26))
  k_chance_up : PySem.W.keepIn K (.ref (ad 26)) = true
  b_chance_up : Binds K (fd 26) ["plan", "rate"] []
  m_chance_down : mg "chance_down" = some (.ref (ad 27))
  k_chance_down : PySem.W.keepIn K (.ref (ad 27)) = true
  b_chance_down : Binds K (fd 27) ["plan", "rate"] []
  m_trials_in : mg "trials_in" = some (.ref (ad 28))
  k_trials_in : PySem.W.keepIn K (.ref (ad 28)) = true
  b_trials_in : Binds K (fd 28) ["plan", "rate"] []
  m_trial_chances : mg "trial_chances" = some (.ref (ad 29))
  k_trial_chances : PySem.W.keepIn K (.ref (ad 29)) = true
  b_trial_chances : Binds K (fd 29) ["plan", "rate"] []
  m_mean_in : mg "mean_in" = some (.ref (ad 30))
  k_mean_in : PySem.W.keepIn K (.ref (ad 30)) = true
  b_mean_in : Binds K (fd 30) ["chances"] []
  m_mean_trials : mg "mean_trials" = some (.ref (ad 31))
  k_mean_trials : PySem.W.keepIn K (.ref (ad 31)) = true
  b_mean_trials : Binds K (fd 31) ["plan", "rate"] []
  m__law_roll : mg "_law_roll" = some (.ref (ad 32))
  k__law_roll : PySem.W.keepIn K (.ref (ad 32)) = true
  b__law_roll : Binds K (fd 32) ["cup", "many"] []
  m__law_rate : mg "_law_rate" = some (.ref (ad 33))
  k__law_rate : PySem.W.keepIn K (.ref (ad 33)) = true
  b__law_rate : Binds K (fd 33) ["cup"] []
  m__law_power : mg "_law_power" = some (.ref (ad 34))
  k__law_power : PySem.W.keepIn K (.ref (ad 34)) = true
  b__law_power : Binds K (fd 34) ["number", "times"] []
  m__law_plus : mg "_law_plus" = some (.ref (ad 35))
  k__law_plus : PySem.W.keepIn K (.ref (ad 35)) = true
  b__law_plus : Binds K (fd 35) ["one", "other"] []
  m_ways_at : mg "ways_at" = some (.ref (ad 36))
  k_ways_at : PySem.W.keepIn K (.ref (ad 36)) = true
  b_ways_at : Binds K (fd 36) ["plan", "many", "ups"] []
  m_need_end_point : mg "need_end_point" = some (.ref (ad 37))
  k_need_end_point : PySem.W.keepIn K (.ref (ad 37)) = true
  b_need_end_point : Binds K (fd 37) ["plan", "many", "ups"] []
  m_end_chance : mg "end_chance" = some (.ref (ad 38))
  k_end_chance : PySem.W.keepIn K (.ref (ad 38)) = true
  b_end_chance : Binds K (fd 38) ["plan", "rate", "many", "ups"] []
  m_product_in : mg "product_in" = some (.ref (ad 39))
  k_product_in : PySem.W.keepIn K (.ref (ad 39)) = true
  b_product_in : Binds K (fd 39) ["one", "other"] []
  m_share_begun : mg "share_begun" = some (.ref (ad 40))
  k_share_begun : PySem.W.keepIn K (.ref (ad 40)) = true
  b_share_begun : Binds K (fd 40) ["plan", "many", "ups"] []
  m_share_mean : mg "share_mean" = some (.ref (ad 41))
  k_share_mean : PySem.W.keepIn K (.ref (ad 41)) = true
  b_share_mean : Binds K (fd 41) ["plan", "rate"] []
  m__law_plan : mg "_law_plan" = some (.ref (ad 42))
  k__law_plan : PySem.W.keepIn K (.ref (ad 42)) = true
  b__law_plan : Binds K (fd 42) ["cup", "most"] []
  m_begun_share : mg "begun_share" = some (.ref (ad 43))
  k_begun_share : PySem.W.keepIn K (.ref (ad 43)) = true
  b_begun_share : Binds K (fd 43) ["plan", "many", "ups"] []
  m__law_sum : mg "_law_sum" = some (.ref (ad 44))
  k__law_sum : PySem.W.keepIn K (.ref (ad 44)) = true
  b__law_sum : Binds K (fd 44) ["fractions"] []
  m__law_some : mg "_law_some" = some (.ref (ad 45))
  k__law_some : PySem.W.keepIn K (.ref (ad 45)) = true
  b__law_some : Binds K (fd 45) ["cup", "things"] []
  m__law_chance : mg "_law_chance" = some (.ref (ad 46))
  k__law_chance : PySem.W.keepIn K (.ref (ad 46)) = true
  b__law_chance : Binds K (fd 46) ["rate", "many", "ups", "ways"] []
  m__law_points : mg "_law_points" = some (.ref (ad 47))
  k__law_points : PySem.W.keepIn K (.ref (ad 47)) = true
  b__law_points : Binds K (fd 47) ["plan"] []
  m_is_rising : mg "is_rising" = some (.ref (ad 48))
  k_is_rising : PySem.W.keepIn K (.ref (ad 48)) = true
  b_is_rising : Binds K (fd 48) ["things"] []
  m_is_share : mg "is_share" = some (.ref (ad 49))
  k_is_share : PySem.W.keepIn K (.ref (ad 49)) = true
  b_is_share : Binds K (fd 49) ["value"] []
  m_fits_chances : mg "fits_chances" = some (.ref (ad 50))
  k_fits_chances : PySem.W.keepIn K (.ref (ad 50)) = true
  b_fits_chances : Binds K (fd 50) ["value"] []
  m_are_chances : mg "are_chances" = some (.ref (ad 51))
  k_are_chances : PySem.W.keepIn K (.ref (ad 51)) = true
  b_are_chances : Binds K (fd 51) ["value"] []
  m_need_chances : mg "need_chances" = some (.ref (ad 52))
  k_need_chances : PySem.W.keepIn K (.ref (ad 52)) = true
  b_need_chances : Binds K (fd 52) ["value"] []
  m_mean_of : mg "mean_of" = some (.ref (ad 53))
  k_mean_of : PySem.W.keepIn K (.ref (ad 53)) = true
  b_mean_of : Binds K (fd 53) ["chances"] []
  m__law_right : mg "_law_right" = some (.ref (ad 54))
  k__law_right : PySem.W.keepIn K (.ref (ad 54)) = true
  b__law_right : Binds K (fd 54) ["cup", "plan", "rate"] []
  m__law_turned_right : mg "_law_turned_right" = some (.ref (ad 55))
  k__law_turned_right : PySem.W.keepIn K (.ref (ad 55)) = true
  b__law_turned_right : Binds K (fd 55) ["plan", "rate"] []
  z_abs : mg "abs" = none
  z_all : mg "all" = none
  z_bool : mg "bool" = none
  z_enumerate : mg "enumerate" = none
  z_int : mg "int" = none
  z_isinstance : mg "isinstance" = none
  z_len : mg "len" = none
  z_list : mg "list" = none
  z_max : mg "max" = none
  z_min : mg "min" = none
  z_range : mg "range" = none
  z_set : mg "set" = none
  z_sorted : mg "sorted" = none
  z_str : mg "str" = none
  z_sum : mg "sum" = none
  z_tuple : mg "tuple" = none
  z_zip : mg "zip" = none
  c_FARTHEST : ∃ t : Tok, mg "FARTHEST" = some (.int 1000000 t)
  c_GREAT : ∃ t : Tok, mg "GREAT" = some (.int 1000000000000000000000000000000000000000000000000000000000000 t)
  c_LEAST : ∃ t : Tok, mg "LEAST" = some (.int (-1) t)
  c_MOST_BOUND : ∃ t : Tok, mg "MOST_BOUND" = some (.int 41 t)
  c_MOST_VALUES : ∃ t : Tok, mg "MOST_VALUES" = some (.int 40 t)
  c_NONE : ∃ a : Addr, mg "NONE" = some (.ref a) ∧ ∀ T Hv, Rp K T Hv (.ref a) (.tup [(.int 0), (.int 1)])
  c_ONE : ∃ a : Addr, mg "ONE" = some (.ref a) ∧ ∀ T Hv, Rp K T Hv (.ref a) (.tup [(.int 1), (.int 1)])
  c_RATE_BELOW : ∃ t : Tok, mg "RATE_BELOW" = some (.int 30 t)
  c_TRIALS : ∃ t : Tok, mg "TRIALS" = some (.int 40 t)
section
variable {P : Program} {w : World} {K : PySem.W.Frag} {mg : Str → Option Value} {base : Heap} {cl : Nat → Addr} {ad : Nat → Addr} {fd : Nat → FuncData}
theorem ok__law_cup (T : Txt K mg ad fd) (F : Fun K "_law_cup" "_law_cup" st__law_cup (ad 0) (fd 0)) : FnOk P w K mg base (L2.CX P w) 1 (ad 0) (fd 0) ["script"] (SpF K cl 1 g__law_cup) := show FnOk P w K mg base (L2.CX P w) 1 (ad 0) (fd 0) ["script"] (SpF K cl 1 (bodyF F__law_cup 2)) from okF2 (k := 0) (N := ["script", "cell"]) (ps := ["script"]) F__law_cup F sc__law_cup rfl rfl (by decide) fun cdv A outer s H E hr => by
  have nd := sc__law_cup.nd
  have hu := hu_of hr
  have hu64 := hr.units
  have tk : Takes (cxOf (L2.CX P w) P w K mg base ["script", "cell"] "_law_cup" (defScope st__law_cup) (ad 0) cdv A outer s H E) (WE0 E) := takes_of rfl rfl rfl rfl
  have ps : PassesOwn (model P w) (cxOf (L2.CX P w) P w K mg base ["script", "cell"] "_law_cup" (defScope st__law_cup) (ad 0) cdv A outer s H E).A (cxOf (L2.CX P w) P w K mg base ["script", "cell"] "_law_cup" (defScope st__law_cup) (ad 0) cdv A outer s H E).env (cxOf (L2.CX P w) P w K mg base ["script", "cell"] "_law_cup" (defScope st__law_cup) (ad 0) cdv A outer s H E).xe := passes_of rfl
  exact (hSeqF (hCons (hAsg (ps_set (i := 1) nd rfl (.inl rfl) (dCb call_abs c_abs (by rfl) T.z_abs (by decide +kernel) (aCons (dIx (dBin op_addD o_add (dFE (dCtyF call_list_of c_list (by rfl) T.z_list (by decide +kernel) (aCons (dVar (pv 0)) aNil))) (dFE (dLst (aCons dInt aNil)))) dInt (fun _ _ => rfl)) aNil))))
    (hOne (hRetF (dLst (aCons (dIf (bCmp op_ge o_cmpI (dVar (pv 1)) (dBin op_pow o_pow dInt dInt) (nomark _)) (dBin op_divD o_div (dVar (pv 1)) dInt) dInt) (aCons (dBin op_addD o_add (dBin op_mod o_mod (dCty call_int1 c_int (by rfl) T.z_int (by decide +kernel) (aCons (dBin op_addD o_add (dBin op_mulD o_mul (dVar (pv 1)) dInt) dInt) aNil)) dInt) dInt) aNil)))))))
theorem ok__law_divisor (T : Txt K mg ad fd) (F : Fun K "_law_divisor" "_law_divisor" st__law_divisor (ad 1) (fd 1)) : FnOk P w K mg base (L2.CX P w) 1 (ad 1) (fd 1) ["one", "other"] (SpD K cl 2 g__law_divisor) := show FnOk P w K mg base (L2.CX P w) 1 (ad 1) (fd 1) ["one", "other"] (SpD K cl 2 (bodyD F__law_divisor 2)) from okD2 (k := 0) (N := ["one", "other"]) (ps := ["one", "other"]) F__law_divisor F sc__law_divisor rfl rfl (by decide) fun cdv A outer s H E hr => by
  have nd := sc__law_divisor.nd
  have hu := hu_of hr
  have hu64 := hr.units
  have tk : Takes (cxOf (L2.CX P w) P w K mg base ["one", "other"] "_law_divisor" (defScope st__law_divisor) (ad 1) cdv A outer s H E) (WE0 E) := takes_of rfl rfl rfl rfl
  have ps : PassesOwn (model P w) (cxOf (L2.CX P w) P w K mg base ["one", "other"] "_law_divisor" (defScope st__law_divisor) (ad 1) cdv A outer s H E).A (cxOf (L2.CX P w) P w K mg base ["one", "other"] "_law_divisor" (defScope st__law_divisor) (ad 1) cdv A outer s H E).env (cxOf (L2.CX P w) P w K mg base ["one", "other"] "_law_divisor" (defScope st__law_divisor) (ad 1) cdv A outer s H E).xe := passes_of rfl
  exact (hCons (hPar2 (ps_par (i := 0) (j := 1) rfl nd rfl rfl (by decide) rfl rfl (jVal (dCb call_abs c_abs (by rfl) T.z_abs (by decide +kernel) (aCons (dVar (pv 0)) aNil)) (jVal (dCb call_abs c_abs (by rfl) T.z_abs (by decide +kernel) (aCons (dVar (pv 1)) aNil)) jNil)) (by rfl)))
    (hCons (hWhileV (fuelI 1) ps (bCmp (op_neD hu64) o_ne (dVar (pv 1)) dInt (nomark _)) (hOne (hPar2 (ps_par (i := 0) (j := 1) rfl nd rfl rfl (by decide) rfl rfl (jVal (dVar (pv 1)) (jVal (dBin op_mod o_mod (dCty call_int1 c_int (by rfl) T.z_int (by decide +kernel) (aCons (dVar (pv 0)) aNil)) (dVar (pv 1))) jNil)) (by rfl)))))
    (hOne (hRet (dVar (pv 0))))))
theorem ok__law_least (T : Txt K mg ad fd) (F : Fun K "_law_least" "_law_least" st__law_least (ad 2) (fd 2)) (G__law_divisor : FnOk P w K mg base (L2.CX P w) 1 (ad 1) (fd 1) ["one", "other"] (SpD K cl 2 g__law_divisor)) : FnOk P w K mg base (L2.CX P w) 2 (ad 2) (fd 2) ["above", "below"] (SpD K cl 2 g__law_least) := show FnOk P w K mg base (L2.CX P w) 2 (ad 2) (fd 2) ["above", "below"] (SpD K cl 2 (bodyD F__law_least 4)) from okD2 (k := 1) (N := ["above", "below", "sign", "whole"]) (ps := ["above", "below"]) F__law_least F sc__law_least rfl rfl (by decide) fun cdv A outer s H E hr => by
  have nd := sc__law_least.nd
  have hu := hu_of hr
  have hu64 := hr.units
  have tk : Takes (cxOf (L2.CX P w) P w K mg base ["above", "below", "sign", "whole"] "_law_least" (defScope st__law_least) (ad 2) cdv A outer s H E) (WE0 E) := takes_of rfl rfl rfl rfl
  have ps : PassesOwn (model P w) (cxOf (L2.CX P w) P w K mg base ["above", "below", "sign", "whole"] "_law_least" (defScope st__law_least) (ad 2) cdv A outer s H E).A (cxOf (L2.CX P w) P w K mg base ["above", "below", "sign", "whole"] "_law_least" (defScope st__law_least) (ad 2) cdv A outer s H E).env (cxOf (L2.CX P w) P w K mg base ["above", "below", "sign", "whole"] "_law_least" (defScope st__law_least) (ad 2) cdv A outer s H E).xe := passes_of rfl
  exact (hCons (hAsg (ps_set (i := 2) nd rfl (.inl rfl) (dIf (bCmp op_lt o_cmpI (dVar (pv 1)) dInt (nomark _)) (dUn un_neg o_neg dInt) dInt)))
    (hCons (hAsg (ps_set (i := 3) nd rfl (.inl rfl) (dCb (call_max2 rfl) c_max2 (by rfl) T.z_max (by decide +kernel) (aCons dInt (aCons (dCall G__law_divisor (hr.mono (by omega)) (by rfl) T.m__law_divisor T.k__law_divisor T.b__law_divisor tk (aCons (dVar (pv 0)) (aCons (dVar (pv 1)) aNil)) (lCons_len (lCons_len lNil_len))) aNil)))))
    (hOne (hRet (dTup (aCons (dCty call_int1 c_int (by rfl) T.z_int (by decide +kernel) (aCons (dBin op_divD o_div (dBin op_mulD o_mul (dVar (pv 2)) (dVar (pv 0))) (dVar (pv 3))) aNil)) (aCons (dCty call_int1 c_int (by rfl) T.z_int (by decide +kernel) (aCons (dBin op_divD o_div (dBin op_mulD o_mul (dVar (pv 2)) (dVar (pv 1))) (dVar (pv 3))) aNil)) aNil)))))))
theorem ok__law_times (T : Txt K mg ad fd) (F : Fun K "_law_times" "_law_times" st__law_times (ad 3) (fd 3)) (G__law_least : FnOk P w K mg base (L2.CX P w) 2 (ad 2) (fd 2) ["above", "below"] (SpD K cl 2 g__law_least)) : FnOk P w K mg base (L2.CX P w) 3 (ad 3) (fd 3) ["one", "other"] (SpD K cl 2 g__law_times) := show FnOk P w K mg base (L2.CX P w) 3 (ad 3) (fd 3) ["one", "other"] (SpD K cl 2 (bodyD F__law_times 2)) from okD2 (k := 2) (N := ["one", "other"]) (ps := ["one", "other"]) F__law_times F sc__law_times rfl rfl (by decide) fun cdv A outer s H E hr => by
  have nd := sc__law_times.nd
  have hu := hu_of hr
  have hu64 := hr.units
  have tk : Takes (cxOf (L2.CX P w) P w K mg base ["one", "other"] "_law_times" (defScope st__law_times) (ad 3) cdv A outer s H E) (WE0 E) := takes_of rfl rfl rfl rfl
  have ps : PassesOwn (model P w) (cxOf (L2.CX P w) P w K mg base ["one", "other"] "_law_times" (defScope st__law_times) (ad 3) cdv A outer s H E).A (cxOf (L2.CX P w) P w K mg base ["one", "other"] "_law_times" (defScope st__law_times) (ad 3) cdv A outer s H E).env (cxOf (L2.CX P w) P w K mg base ["one", "other"] "_law_times" (defScope st__law_times) (ad 3) cdv A outer s H E).xe := passes_of rfl
  exact (hOne (hRet (dCall G__law_least (hr.mono (by omega)) (by rfl) T.m__law_least T.k__law_least T.b__law_least tk (aCons (dBin op_mulD o_mul (dIx (dVar (pv 0)) dInt (fun _ _ => rfl)) (dIx (dVar (pv 1)) dInt (fun _ _ => rfl))) (aCons (dBin op_mulD o_mul (dIx (dVar (pv 0)) dInt (fun _ _ => rfl)) (dIx (dVar (pv 1)) dInt (fun _ _ => rfl))) aNil)) (lCons_len (lCons_len lNil_len)))))
theorem ok__law_sort (T : Txt K mg ad fd) (F : Fun K "_law_sort" "_law_sort" st__law_sort (ad 4) (fd 4)) : FnOk P w K mg base (L2.CX P w) 1 (ad 4) (fd 4) ["value"] (SpD K cl 1 g__law_sort) := show FnOk P w K mg base (L2.CX P w) 1 (ad 4) (fd 4) ["value"] (SpD K cl 1 (bodyD F__law_sort 1)) from okD2 (k := 0) (N := ["value"]) (ps := ["value"]) F__law_sort F sc__law_sort rfl rfl (by decide) fun cdv A outer s H E hr => by
  have nd := sc__law_sort.nd
  have hu := hu_of hr
  have hu64 := hr.units
  have tk : Takes (cxOf (L2.CX P w) P w K mg base ["value"] "_law_sort" (defScope st__law_sort) (ad 4) cdv A outer s H E) (WE0 E) := takes_of rfl rfl rfl rfl
  have ps : PassesOwn (model P w) (cxOf (L2.CX P w) P w K mg base ["value"] "_law_sort" (defScope st__law_sort) (ad 4) cdv A outer s H E).A (cxOf (L2.CX P w) P w K mg base ["value"] "_law_sort" (defScope st__law_sort) (ad 4) cdv A outer s H E).env (cxOf (L2.CX P w) P w K mg base ["value"] "_law_sort" (defScope st__law_sort) (ad 4) cdv A outer s H E).xe := passes_of rfl
  exact (hCons (hIf (bPW (wOr (bCmp op_isN o_isN (dVar (pv 0)) dNon (nomark _)) (wOr1 (bValE (dIsi Ty.bool (by rfl) T.z_isinstance (by rfl) T.z_bool (by decide +kernel) (dVar (pv 0))))))) (hOne (hRet (dIf (bCmp op_isN o_isN (dVar (pv 0)) dNon (nomark _)) dInt dInt))) hNil)
    (hCons (hIf (bPW (wOr (bValE (dIsi Ty.int (by rfl) T.z_isinstance (by rfl) T.z_int (by decide +kernel) (dVar (pv 0)))) (wOr1 (bValE (dIsi Ty.str (by rfl) T.z_isinstance (by rfl) T.z_str (by decide +kernel) (dVar (pv 0))))))) (hOne (hRet (dIf (bValE (dIsi Ty.int (by rfl) T.z_isinstance (by rfl) T.z_int (by decide +kernel) (dVar (pv 0)))) dInt dInt))) hNil)
    (hOne (hRet (dIf (bValE (dIsi Ty.tuple (by rfl) T.z_isinstance (by rfl) T.z_tuple (by decide +kernel) (dVar (pv 0)))) dInt (dIf (bValE (dIsi Ty.list (by rfl) T.z_isinstance (by rfl) T.z_list (by decide +kernel) (dVar (pv 0)))) dInt dInt))))))
theorem ok__law_like (T : Txt K mg ad fd) (F : Fun K "_law_like" "_law_like" st__law_like (ad 5) (fd 5)) (G__law_sort : FnOk P w K mg base (L2.CX P w) 1 (ad 4) (fd 4) ["value"] (SpD K cl 1 g__law_sort)) : ∀ n : Nat, FnOk P w K mg base (L2.CX P w) (n + 2) (ad 5) (fd 5) ["one", "other"] (SpD K cl 2 (g__law_like n))
  | 0 => (ok02 (k := 1) F sc__law_like rfl).mono (by omega)
  | n + 1 => by
    have G__law_like := ok__law_like T F G__law_sort n
    refine FnOk.mono (j := n + 2 + 1) (show FnOk P w K mg base (L2.CX P w) (n + 2 + 1) (ad 5) (fd 5) ["one", "other"] (SpD K cl 2 (bodyD (F__law_like (g__law_like n)) 5)) from okD2 (k := n + 2) (N := ["one", "other", "sort", "first", "second"]) (ps := ["one", "other"]) (F__law_like (g__law_like n)) F sc__law_like rfl rfl (by decide) fun cdv A outer s H E hr => ?_) (by omega)
    have nd := sc__law_like.nd
    have hu := hu_of hr
    have hu64 := hr.units
    have tk : Takes (cxOf (L2.CX P w) P w K mg base ["one", "other", "sort", "first", "second"] "_law_like" (defScope st__law_like) (ad 5) cdv A outer s H E) (WE0 E) := takes_of rfl rfl rfl rfl
    have ps : PassesOwn (model P w) (cxOf (L2.CX P w) P w K mg base ["one", "other", "sort", "first", "second"] "_law_like" (defScope st__law_like) (ad 5) cdv A outer s H E).A (cxOf (L2.CX P w) P w K mg base ["one", "other", "sort", "first", "second"] "_law_like" (defScope st__law_like) (ad 5) cdv A outer s H E).env (cxOf (L2.CX P w) P w K mg base ["one", "other", "sort", "first", "second"] "_law_like" (defScope st__law_like) (ad 5) cdv A outer s H E).xe := passes_of rfl
    exact (hCons (hAsg (ps_set (i := 2) nd rfl (.inl rfl) (dCall G__law_sort (hr.mono (by omega)) (by rfl) T.m__law_sort T.k__law_sort T.b__law_sort tk (aCons (dVar (pv 1)) aNil) (lCons_len lNil_len))))
    (hCons (hIf (bPW (wOr (bCmp (op_neD hu64) o_ne (dCall G__law_sort (hr.mono (by omega)) (by rfl) T.m__law_sort T.k__law_sort T.b__law_sort tk (aCons (dVar (pv 0)) aNil) (lCons_len lNil_len)) (dVar (pv 2)) (nomark _)) (wOr1 (bCmp (op_eqD hu64) o_eq (dVar (pv 2)) dInt (nomark _))))) (hOne (hRet dBl)) hNil)
    (hCons (hIf (bCmp op_in_seq o_inSq (dVar (pv 2)) (dTup (aCons dInt (aCons dInt aNil))) (by with_unfolding_all rfl)) (hOne (hRet (dAnd (dCmp (op_eqD hu64) o_eq (dCb call_len c_len (by rfl) T.z_len (by decide +kernel) (aCons (dVar (pv 0)) aNil)) (dCb call_len c_len (by rfl) T.z_len (by decide +kernel) (aCons (dVar (pv 1)) aNil)) (nomark _)) (dOne (dCmp (op_eqD hu64) o_eq (dFE (dLc (pe_lc (own := [("first", 3), ("second", 4)]) rfl nd (jZipA (RZ.pi_zipA (by rfl) T.z_zip (aCons (dVar (pv 0)) (aCons (dVar (pv 1)) aNil)))) (blkOk_by (N := ["one", "other", "sort", "first", "second"]) (sc := defScope st__law_like) (by decide +kernel)) (fun _ _ _ _ _ => (kT (pg_tup rfl (kC (kN (pg_name (i := 3) nd rfl (.inl rfl))) (kC (kN (pg_name (i := 4) nd rfl (.inl rfl))) kE (pgs_cons (kN (pg_name (i := 4) nd rfl (.inl rfl))) kE)) (pgs_cons (kN (pg_name (i := 3) nd rfl (.inl rfl))) (kC (kN (pg_name (i := 4) nd rfl (.inl rfl))) kE (pgs_cons (kN (pg_name (i := 4) nd rfl (.inl rfl))) kE))))) (gs_len (gs_len gE_len)))) (fun _ _ _ _ _ => (pts_one (bNotE (bValE (dCall G__law_like (hr.mono (by omega)) (by rfl) T.m__law_like T.k__law_like T.b__law_like takes0 (aCons (dVar (pv 3)) (aCons (dVar (pv 4)) aNil)) (lCons_len (lCons_len lNil_len))))))) (fun _ _ _ _ _ => dInt)))) (dFE (dLst aNil)) (nomark _)))))) hNil)
    (hOne (hRet (dCmp (op_eqD hu64) o_eq (dVar (pv 0)) (dVar (pv 1)) (nomark _)))))))
theorem ok_is_tuple_of (T : Txt K mg ad fd) (F : Fun K "is_tuple_of" "is_tuple_of" st_is_tuple_of (ad 6) (fd 6)) : FnOk P w K mg base (L2.CX P w) 1 (ad 6) (fd 6) ["value", "low", "high"] (SpD K cl 3 g_is_tuple_of) := show FnOk P w K mg base (L2.CX P w) 1 (ad 6) (fd 6) ["value", "low", "high"] (SpD K cl 3 (bodyD F_is_tuple_of 3)) from okD2 (k := 0) (N := ["value", "low", "high"]) (ps := ["value", "low", "high"]) F_is_tuple_of F sc_is_tuple_of rfl rfl (by decide) fun cdv A outer s H E hr => by
  have nd := sc_is_tuple_of.nd
  have hu := hu_of hr
  have hu64 := hr.units
  have tk : Takes (cxOf (L2.CX P w) P w K mg base ["value", "low", "high"] "is_tuple_of" (defScope st_is_tuple_of) (ad 6) cdv A outer s H E) (WE0 E) := takes_of rfl rfl rfl rfl
  have ps : PassesOwn (model P w) (cxOf (L2.CX P w) P w K mg base ["value", "low", "high"] "is_tuple_of" (defScope st_is_tuple_of) (ad 6) cdv A outer s H E).A (cxOf (L2.CX P w) P w K mg base ["value", "low", "high"] "is_tuple_of" (defScope st_is_tuple_of) (ad 6) cdv A outer s H E).env (cxOf (L2.CX P w) P w K mg base ["value", "low", "high"] "is_tuple_of" (defScope st_is_tuple_of) (ad 6) cdv A outer s H E).xe := passes_of rfl
  exact (hOne (hRet (dAnd (dIsi Ty.tuple (by rfl) T.z_isinstance (by rfl) T.z_tuple (by decide +kernel) (dVar (pv 0))) (dOne (dChain op_le o_cmpI op_le o_cmpI (dVar (pv 1)) (dCb call_len c_len (by rfl) T.z_len (by decide +kernel) (aCons (dVar (pv 0)) aNil)) (dVar (pv 2)))))))
theorem ok_is_integer (T : Txt K mg ad fd) (F : Fun K "is_integer" "is_integer" st_is_integer (ad 7) (fd 7)) : FnOk P w K mg base (L2.CX P w) 1 (ad 7) (fd 7) ["value"] (SpD K cl 1 g_is_integer) := show FnOk P w K mg base (L2.CX P w) 1 (ad 7) (fd 7) ["value"] (SpD K cl 1 (bodyD F_is_integer 1)) from okD2 (k := 0) (N := ["value"]) (ps := ["value"]) F_is_integer F sc_is_integer rfl rfl (by decide) fun cdv A outer s H E hr => by
  have nd := sc_is_integer.nd
  have hu := hu_of hr
  have hu64 := hr.units
  have tk : Takes (cxOf (L2.CX P w) P w K mg base ["value"] "is_integer" (defScope st_is_integer) (ad 7) cdv A outer s H E) (WE0 E) := takes_of rfl rfl rfl rfl
  have ps : PassesOwn (model P w) (cxOf (L2.CX P w) P w K mg base ["value"] "is_integer" (defScope st_is_integer) (ad 7) cdv A outer s H E).A (cxOf (L2.CX P w) P w K mg base ["value"] "is_integer" (defScope st_is_integer) (ad 7) cdv A outer s H E).env (cxOf (L2.CX P w) P w K mg base ["value"] "is_integer" (defScope st_is_integer) (ad 7) cdv A outer s H E).xe := passes_of rfl
  exact (hOne (hRet (dAnd (dIsi Ty.int (by rfl) T.z_isinstance (by rfl) T.z_int (by decide +kernel) (dVar (pv 0))) (dOne (dNot (dIsi Ty.bool (by rfl) T.z_isinstance (by rfl) T.z_bool (by decide +kernel) (dVar (pv 0))))))))
theorem ok_is_whole (T : Txt K mg ad fd) (F : Fun K "is_whole" "is_whole" st_is_whole (ad 8) (fd 8)) (G_is_integer : FnOk P w K mg base (L2.CX P w) 1 (ad 7) (fd 7) ["value"] (SpD K cl 1 g_is_integer)) : FnOk P w K mg base (L2.CX P w) 2 (ad 8) (fd 8) ["value", "low", "high"] (SpD K cl 3 g_is_whole) := show FnOk P w K mg base (L2.CX P w) 2 (ad 8) (fd 8) ["value", "low", "high"] (SpD K cl 3 (bodyD F_is_whole 3)) from okD2 (k := 1) (N := ["value", "low", "high"]) (ps := ["value", "low", "high"]) F_is_whole F sc_is_whole rfl rfl (by decide) fun cdv A outer s H E hr => by
  have nd := sc_is_whole.nd
  have hu := hu_of hr
  have hu64 := hr.units
  have tk : Takes (cxOf (L2.CX P w) P w K mg base ["value", "low", "high"] "is_whole" (defScope st_is_whole) (ad 8) cdv A outer s H E) (WE0 E) := takes_of rfl rfl rfl rfl
  have ps : PassesOwn (model P w) (cxOf (L2.CX P w) P w K mg base ["value", "low", "high"] "is_whole" (defScope st_is_whole) (ad 8) cdv A outer s H E).A (cxOf (L2.CX P w) P w K mg base ["value", "low", "high"] "is_whole" (defScope st_is_whole) (ad 8) cdv A outer s H E).env (cxOf (L2.CX P w) P w K mg base ["value", "low", "high"] "is_whole" (defScope st_is_whole) (ad 8) cdv A outer s H E).xe := passes_of rfl
  exact (hOne (hRet (dAnd (dCall G_is_integer (hr.mono (by omega)) (by rfl) T.m_is_integer T.k_is_integer T.b_is_integer tk (aCons (dVar (pv 0)) aNil) (lCons_len lNil_len)) (dOne (dChain op_le o_cmpI op_le o_cmpI (dVar (pv 1)) (dVar (pv 0)) (dVar (pv 2)))))))
theorem ok_fits_bounds (T : Txt K mg ad fd) (F : Fun K "fits_bounds" "fits_bounds" st_fits_bounds (ad 9) (fd 9)) (G_is_tuple_of : FnOk P w K mg base (L2.CX P w) 1 (ad 6) (fd 6) ["value", "low", "high"] (SpD K cl 3 g_is_tuple_of)) (G_is_whole : FnOk P w K mg base (L2.CX P w) 2 (ad 8) (fd 8) ["value", "low", "high"] (SpD K cl 3 g_is_whole)) : FnOk P w K mg base (L2.CX P w) 3 (ad 9) (fd 9) ["value"] (SpD K cl 1 g_fits_bounds) := show FnOk P w K mg base (L2.CX P w) 3 (ad 9) (fd 9) ["value"] (SpD K cl 1 (bodyD F_fits_bounds 2)) from okD2 (k := 2) (N := ["value", "bound"]) (ps := ["value"]) F_fits_bounds F sc_fits_bounds rfl rfl (by decide) fun cdv A outer s H E hr => by
  have nd := sc_fits_bounds.nd
  have hu := hu_of hr
  have hu64 := hr.units
  have tk : Takes (cxOf (L2.CX P w) P w K mg base ["value", "bound"] "fits_bounds" (defScope st_fits_bounds) (ad 9) cdv A outer s H E) (WE0 E) := takes_of rfl rfl rfl rfl
  have ps : PassesOwn (model P w) (cxOf (L2.CX P w) P w K mg base ["value", "bound"] "fits_bounds" (defScope st_fits_bounds) (ad 9) cdv A outer s H E).A (cxOf (L2.CX P w) P w K mg base ["value", "bound"] "fits_bounds" (defScope st_fits_bounds) (ad 9) cdv A outer s H E).env (cxOf (L2.CX P w) P w K mg base ["value", "bound"] "fits_bounds" (defScope st_fits_bounds) (ad 9) cdv A outer s H E).xe := passes_of rfl
  exact (hCons (hIf (bPW (wOr (bNotE (bValE (dCall G_is_tuple_of (hr.mono (by omega)) (by rfl) T.m_is_tuple_of T.k_is_tuple_of T.b_is_tuple_of tk (aCons (dVar (pv 0)) (aCons dInt (aCons dInt aNil))) (lCons_len (lCons_len (lCons_len lNil_len)))))) (wOr1 (bNotE (bValE (dCb (cr_all rfl) c_all (by rfl) T.z_all (by decide +kernel) (aCons (dFE (dLc (pe_lc (own := [("bound", 1)]) rfl nd (jSeq (dVar (pv 0))) (blkOk_by (N := ["value", "bound"]) (sc := defScope st_fits_bounds) (by decide +kernel)) (fun _ _ _ _ _ => (kN (pg_name (i := 1) nd rfl (.inl rfl)))) (fun _ _ _ _ _ => bNilT) (fun _ _ _ _ _ => (dCall G_is_whole (hr.mono (by omega)) (by rfl) T.m_is_whole T.k_is_whole T.b_is_whole takes0 (aCons (dVar (pv 1)) (aCons (dC (pe_glob (v := (.int (-1))) (by rfl) T.c_LEAST.choose_spec ⟨_, rfl⟩) fun _ _ => .int _) (aCons (dC (pe_glob (v := (.int 41)) (by rfl) T.c_MOST_BOUND.choose_spec ⟨_, rfl⟩) fun _ _ => .int _) aNil))) (lCons_len (lCons_len (lCons_len lNil_len)))))))) aNil))))))) (hOne (hRet dBl)) hNil)
    (hOne (hRet (dCmp op_lt o_cmpI (dIx (dVar (pv 0)) dInt (fun _ _ => rfl)) (dIx (dVar (pv 0)) dInt (fun _ _ => rfl)) (nomark _)))))
theorem ok_fits_end_plan (T : Txt K mg ad fd) (F : Fun K "fits_end_plan" "fits_end_plan" st_fits_end_plan (ad 10) (fd 10)) (G_is_tuple_of : FnOk P w K mg base (L2.CX P w) 1 (ad 6) (fd 6) ["value", "low", "high"] (SpD K cl 3 g_is_tuple_of)) (G_fits_bounds : FnOk P w K mg base (L2.CX P w) 3 (ad 9) (fd 9) ["value"] (SpD K cl 1 g_fits_bounds)) : FnOk P w K mg base (L2.CX P w) 4 (ad 10) (fd 10) ["value"] (SpD K cl 1 g_fits_end_plan) := show FnOk P w K mg base (L2.CX P w) 4 (ad 10) (fd 10) ["value"] (SpD K cl 1 (bodyD F_fits_end_plan 2)) from okD2 (k := 3) (N := ["value", "bounds"]) (ps := ["value"]) F_fits_end_plan F sc_fits_end_plan rfl rfl (by decide) fun cdv A outer s H E hr => by
  have nd := sc_fits_end_plan.nd
  have hu := hu_of hr
  have hu64 := hr.units
  have tk : Takes (cxOf (L2.CX P w) P w K mg base ["value", "bounds"] "fits_end_plan" (defScope st_fits_end_plan) (ad 10) cdv A outer s H E) (WE0 E) := takes_of rfl rfl rfl rfl
  have ps : PassesOwn (model P w) (cxOf (L2.CX P w) P w K mg base ["value", "bounds"] "fits_end_plan" (defScope st_fits_end_plan) (ad 10) cdv A outer s H E).A (cxOf (L2.CX P w) P w K mg base ["value", "bounds"] "fits_end_plan" (defScope st_fits_end_plan) (ad 10) cdv A outer s H E).env (cxOf (L2.CX P w) P w K mg base ["value", "bounds"] "fits_end_plan" (defScope st_fits_end_plan) (ad 10) cdv A outer s H E).xe := passes_of rfl
  exact (hCons (hIf (bPW (wOr (bNotE (bValE (dCall G_is_tuple_of (hr.mono (by omega)) (by rfl) T.m_is_tuple_of T.k_is_tuple_of T.b_is_tuple_of tk (aCons (dVar (pv 0)) (aCons dInt (aCons (dC (pe_glob (v := (.int 40)) (by rfl) T.c_TRIALS.choose_spec ⟨_, rfl⟩) fun _ _ => .int _) aNil))) (lCons_len (lCons_len (lCons_len lNil_len)))))) (wOr1 (bNotE (bValE (dCb (cr_all rfl) c_all (by rfl) T.z_all (by decide +kernel) (aCons (dFE (dLc (pe_lc (own := [("bounds", 1)]) rfl nd (jSeq (dVar (pv 0))) (blkOk_by (N := ["value", "bounds"]) (sc := defScope st_fits_end_plan) (by decide +kernel)) (fun _ _ _ _ _ => (kN (pg_name (i := 1) nd rfl (.inl rfl)))) (fun _ _ _ _ _ => bNilT) (fun _ _ _ _ _ => (dCall G_fits_bounds (hr.mono (by omega)) (by rfl) T.m_fits_bounds T.k_fits_bounds T.b_fits_bounds takes0 (aCons (dVar (pv 1)) aNil) (lCons_len lNil_len)))))) aNil))))))) (hOne (hRet dBl)) hNil)
    (hOne (hRet (dCmp (op_eqD hu64) o_eq (dIx (dIx (dVar (pv 0)) (dUn un_neg o_neg dInt) (fun _ _ => rfl)) dInt (fun _ _ => rfl)) (dBin op_addD o_add (dIx (dIx (dVar (pv 0)) (dUn un_neg o_neg dInt) (fun _ _ => rfl)) dInt (fun _ _ => rfl)) dInt) (nomark _)))))
theorem ok_need_end_plan (T : Txt K mg ad fd) (F : Fun K "need_end_plan" "need_end_plan" st_need_end_plan (ad 11) (fd 11)) (G_fits_end_plan : FnOk P w K mg base (L2.CX P w) 4 (ad 10) (fd 10) ["value"] (SpD K cl 1 g_fits_end_plan)) : FnOk P w K mg base (L2.CX P w) 5 (ad 11) (fd 11) ["value"] (SpD K cl 1 g_need_end_plan) := show FnOk P w K mg base (L2.CX P w) 5 (ad 11) (fd 11) ["value"] (SpD K cl 1 (bodyD F_need_end_plan 1)) from okD2 (k := 4) (N := ["value"]) (ps := ["value"]) F_need_end_plan F sc_need_end_plan rfl rfl (by decide) fun cdv A outer s H E hr => by
  have nd := sc_need_end_plan.nd
  have hu := hu_of hr
  have hu64 := hr.units
  have tk : Takes (cxOf (L2.CX P w) P w K mg base ["value"] "need_end_plan" (defScope st_need_end_plan) (ad 11) cdv A outer s H E) (WE0 E) := takes_of rfl rfl rfl rfl
  have ps : PassesOwn (model P w) (cxOf (L2.CX P w) P w K mg base ["value"] "need_end_plan" (defScope st_need_end_plan) (ad 11) cdv A outer s H E).A (cxOf (L2.CX P w) P w K mg base ["value"] "need_end_plan" (defScope st_need_end_plan) (ad 11) cdv A outer s H E).env (cxOf (L2.CX P w) P w K mg base ["value"] "need_end_plan" (defScope st_need_end_plan) (ad 11) cdv A outer s H E).xe := passes_of rfl
  exact (hOne (hIf (bNotE (bValE (dCall G_fits_end_plan (hr.mono (by omega)) (by rfl) T.m_fits_end_plan T.k_fits_end_plan T.b_fits_end_plan tk (aCons (dVar (pv 0)) aNil) (lCons_len lNil_len)))) (hOne hFail) hNil))
theorem ok_divisor_of (T : Txt K mg ad fd) (F : Fun K "divisor_of" "divisor_of" st_divisor_of (ad 12) (fd 12)) : FnOk P w K mg base (L2.CX P w) 1 (ad 12) (fd 12) ["one", "other"] (SpD K cl 2 g_divisor_of) := show FnOk P w K mg base (L2.CX P w) 1 (ad 12) (fd 12) ["one", "other"] (SpD K cl 2 (bodyD F_divisor_of 2)) from okD2 (k := 0) (N := ["one", "other"]) (ps := ["one", "other"]) F_divisor_of F sc_divisor_of rfl rfl (by decide) fun cdv A outer s H E hr => by
  have nd := sc_divisor_of.nd
  have hu := hu_of hr
  have hu64 := hr.units
  have tk : Takes (cxOf (L2.CX P w) P w K mg base ["one", "other"] "divisor_of" (defScope st_divisor_of) (ad 12) cdv A outer s H E) (WE0 E) := takes_of rfl rfl rfl rfl
  have ps : PassesOwn (model P w) (cxOf (L2.CX P w) P w K mg base ["one", "other"] "divisor_of" (defScope st_divisor_of) (ad 12) cdv A outer s H E).A (cxOf (L2.CX P w) P w K mg base ["one", "other"] "divisor_of" (defScope st_divisor_of) (ad 12) cdv A outer s H E).env (cxOf (L2.CX P w) P w K mg base ["one", "other"] "divisor_of" (defScope st_divisor_of) (ad 12) cdv A outer s H E).xe := passes_of rfl
  exact (hCons (hPar2 (ps_par (i := 0) (j := 1) rfl nd rfl rfl (by decide) rfl rfl (jVal (dCb call_abs c_abs (by rfl) T.z_abs (by decide +kernel) (aCons (dVar (pv 0)) aNil)) (jVal (dCb call_abs c_abs (by rfl) T.z_abs (by decide +kernel) (aCons (dVar (pv 1)) aNil)) jNil)) (by rfl)))
    (hCons (hWhileV (fuelI 1) ps (bCmp (op_neD hu64) o_ne (dVar (pv 1)) dInt (nomark _)) (hOne (hPar2 (ps_par (i := 0) (j := 1) rfl nd rfl rfl (by decide) rfl rfl (jVal (dVar (pv 1)) (jVal (dBin op_mod o_mod (dVar (pv 0)) (dVar (pv 1))) jNil)) (by rfl)))))
    (hOne (hRet (dVar (pv 0))))))
theorem ok_fits_fraction (T : Txt K mg ad fd) (F : Fun K "fits_fraction" "fits_fraction" st_fits_fraction (ad 13) (fd 13)) (G_is_tuple_of : FnOk P w K mg base (L2.CX P w) 1 (ad 6) (fd 6) ["value", "low", "high"] (SpD K cl 3 g_is_tuple_of)) (G_is_integer : FnOk P w K mg base (L2.CX P w) 1 (ad 7) (fd 7) ["value"] (SpD K cl 1 g_is_integer)) (G_divisor_of : FnOk P w K mg base (L2.CX P w) 1 (ad 12) (fd 12) ["one", "other"] (SpD K cl 2 g_divisor_of)) : FnOk P w K mg base (L2.CX P w) 2 (ad 13) (fd 13) ["value"] (SpD K cl 1 g_fits_fraction) := show FnOk P w K mg base (L2.CX P w) 2 (ad 13) (fd 13) ["value"] (SpD K cl 1 (bodyD F_fits_fraction 2)) from okD2 (k := 1) (N := ["value", "number"]) (ps := ["value"]) F_fits_fraction F sc_fits_fraction rfl rfl (by decide) fun cdv A outer s H E hr => by
  have nd := sc_fits_fraction.nd
  have hu := hu_of hr
  have hu64 := hr.units
  have tk : Takes (cxOf (L2.CX P w) P w K mg base ["value", "number"] "fits_fraction" (defScope st_fits_fraction) (ad 13) cdv A outer s H E) (WE0 E) := takes_of rfl rfl rfl rfl
  have ps : PassesOwn (model P w) (cxOf (L2.CX P w) P w K mg base ["value", "number"] "fits_fraction" (defScope st_fits_fraction) (ad 13) cdv A outer s H E).A (cxOf (L2.CX P w) P w K mg base ["value", "number"] "fits_fraction" (defScope st_fits_fraction) (ad 13) cdv A outer s H E).env (cxOf (L2.CX P w) P w K mg base ["value", "number"] "fits_fraction" (defScope st_fits_fraction) (ad 13) cdv A outer s H E).xe := passes_of rfl
  exact (hCons (hIf (bPW (wOr (bNotE (bValE (dCall G_is_tuple_of (hr.mono (by omega)) (by rfl) T.m_is_tuple_of T.k_is_tuple_of T.b_is_tuple_of tk (aCons (dVar (pv 0)) (aCons dInt (aCons dInt aNil))) (lCons_len (lCons_len (lCons_len lNil_len)))))) (wOr1 (bNotE (bValE (dCb (cr_all rfl) c_all (by rfl) T.z_all (by decide +kernel) (aCons (dFE (dLc (pe_lc (own := [("number", 1)]) rfl nd (jSeq (dVar (pv 0))) (blkOk_by (N := ["value", "number"]) (sc := defScope st_fits_fraction) (by decide +kernel)) (fun _ _ _ _ _ => (kN (pg_name (i := 1) nd rfl (.inl rfl)))) (fun _ _ _ _ _ => bNilT) (fun _ _ _ _ _ => (dAnd (dCall G_is_integer (hr.mono (by omega)) (by rfl) T.m_is_integer T.k_is_integer T.b_is_integer takes0 (aCons (dVar (pv 1)) aNil) (lCons_len lNil_len)) (dOne (dChain op_lt o_cmpI op_lt o_cmpI (dUn un_neg o_neg (dC (pe_glob (v := (.int 1000000000000000000000000000000000000000000000000000000000000)) (by rfl) T.c_GREAT.choose_spec ⟨_, rfl⟩) fun _ _ => .int _)) (dVar (pv 1)) (dC (pe_glob (v := (.int 1000000000000000000000000000000000000000000000000000000000000)) (by rfl) T.c_GREAT.choose_spec ⟨_, rfl⟩) fun _ _ => .int _)))))))) aNil))))))) (hOne (hRet dBl)) hNil)
    (hOne (hRet (dAnd (dCmp op_ge o_cmpI (dIx (dVar (pv 0)) dInt (fun _ _ => rfl)) dInt (nomark _)) (dOne (dCmp (op_eqD hu64) o_eq (dCall G_divisor_of (hr.mono (by omega)) (by rfl) T.m_divisor_of T.k_divisor_of T.b_divisor_of tk (aCons (dIx (dVar (pv 0)) dInt (fun _ _ => rfl)) (aCons (dIx (dVar (pv 0)) dInt (fun _ _ => rfl)) aNil)) (lCons_len (lCons_len lNil_len))) dInt (nomark _)))))))
theorem ok_fits_chance (T : Txt K mg ad fd) (F : Fun K "fits_chance" "fits_chance" st_fits_chance (ad 14) (fd 14)) (G_fits_fraction : FnOk P w K mg base (L2.CX P w) 2 (ad 13) (fd 13) ["value"] (SpD K cl 1 g_fits_fraction)) : FnOk P w K mg base (L2.CX P w) 3 (ad 14) (fd 14) ["value"] (SpD K cl 1 g_fits_chance) := show FnOk P w K mg base (L2.CX P w) 3 (ad 14) (fd 14) ["value"] (SpD K cl 1 (bodyD F_fits_chance 1)) from okD2 (k := 2) (N := ["value"]) (ps := ["value"]) F_fits_chance F sc_fits_chance rfl rfl (by decide) fun cdv A outer s H E hr => by
  have nd := sc_fits_chance.nd
  have hu := hu_of hr
  have hu64 := hr.units
  have tk : Takes (cxOf (L2.CX P w) P w K mg base ["value"] "fits_chance" (defScope st_fits_chance) (ad 14) cdv A outer s H E) (WE0 E) := takes_of rfl rfl rfl rfl
  have ps : PassesOwn (model P w) (cxOf (L2.CX P w) P w K mg base ["value"] "fits_chance" (defScope st_fits_chance) (ad 14) cdv A outer s H E).A (cxOf (L2.CX P w) P w K mg base ["value"] "fits_chance" (defScope st_fits_chance) (ad 14) cdv A outer s H E).env (cxOf (L2.CX P w) P w K mg base ["value"] "fits_chance" (defScope st_fits_chance) (ad 14) cdv A outer s H E).xe := passes_of rfl
  exact (hOne (hRet (dAnd (dCall G_fits_fraction (hr.mono (by omega)) (by rfl) T.m_fits_fraction T.k_fits_fraction T.b_fits_fraction tk (aCons (dVar (pv 0)) aNil) (lCons_len lNil_len)) (dOne (dChain op_le o_cmpI op_le o_cmpI dInt (dIx (dVar (pv 0)) dInt (fun _ _ => rfl)) (dIx (dVar (pv 0)) dInt (fun _ _ => rfl)))))))
theorem ok_need_up_rate (T : Txt K mg ad fd) (F : Fun K "need_up_rate" "need_up_rate" st_need_up_rate (ad 15) (fd 15)) (G_fits_chance : FnOk P w K mg base (L2.CX P w) 3 (ad 14) (fd 14) ["value"] (SpD K cl 1 g_fits_chance)) : FnOk P w K mg base (L2.CX P w) 4 (ad 15) (fd 15) ["value"] (SpD K cl 1 g_need_up_rate) := show FnOk P w K mg base (L2.CX P w) 4 (ad 15) (fd 15) ["value"] (SpD K cl 1 (bodyD F_need_up_rate 1)) from okD2 (k := 3) (N := ["value"]) (ps := ["value"]) F_need_up_rate F sc_need_up_rate rfl rfl (by decide) fun cdv A outer s H E hr => by
  have nd := sc_need_up_rate.nd
  have hu := hu_of hr
  have hu64 := hr.units
  have tk : Takes (cxOf (L2.CX P w) P w K mg base ["value"] "need_up_rate" (defScope st_need_up_rate) (ad 15) cdv A outer s H E) (WE0 E) := takes_of rfl rfl rfl rfl
  have ps : PassesOwn (model P w) (cxOf (L2.CX P w) P w K mg base ["value"] "need_up_rate" (defScope st_need_up_rate) (ad 15) cdv A outer s H E).A (cxOf (L2.CX P w) P w K mg base ["value"] "need_up_rate" (defScope st_need_up_rate) (ad 15) cdv A outer s H E).env (cxOf (L2.CX P w) P w K mg base ["value"] "need_up_rate" (defScope st_need_up_rate) (ad 15) cdv A outer s H E).xe := passes_of rfl
  exact (hOne (hIf (bPW (wOr (bNotE (bValE (dCall G_fits_chance (hr.mono (by omega)) (by rfl) T.m_fits_chance T.k_fits_chance T.b_fits_chance tk (aCons (dVar (pv 0)) aNil) (lCons_len lNil_len)))) (wOr (bNotE (bChain op_lt o_cmpI op_lt o_cmpI dInt (dIx (dVar (pv 0)) dInt (fun _ _ => rfl)) (dIx (dVar (pv 0)) dInt (fun _ _ => rfl)))) (wOr1 (bCmp op_gt o_cmpI (dIx (dVar (pv 0)) dInt (fun _ _ => rfl)) (dC (pe_glob (v := (.int 30)) (by rfl) T.c_RATE_BELOW.choose_spec ⟨_, rfl⟩) fun _ _ => .int _) (nomark _)))))) (hOne hFail) hNil))
theorem ok_need_plan_at (T : Txt K mg ad fd) (F : Fun K "need_plan_at" "need_plan_at" st_need_plan_at (ad 16) (fd 16)) (G_need_end_plan : FnOk P w K mg base (L2.CX P w) 5 (ad 11) (fd 11) ["value"] (SpD K cl 1 g_need_end_plan)) (G_need_up_rate : FnOk P w K mg base (L2.CX P w) 4 (ad 15) (fd 15) ["value"] (SpD K cl 1 g_need_up_rate)) : FnOk P w K mg base (L2.CX P w) 6 (ad 16) (fd 16) ["plan", "rate"] (SpD K cl 2 g_need_plan_at) := show FnOk P w K mg base (L2.CX P w) 6 (ad 16) (fd 16) ["plan", "rate"] (SpD K cl 2 (bodyD F_need_plan_at 2)) from okD2 (k := 5) (N := ["plan", "rate"]) (ps := ["plan", "rate"]) F_need_plan_at F sc_need_plan_at rfl rfl (by decide) fun cdv A outer s H E hr => by
  have nd := sc_need_plan_at.nd
  have hu := hu_of hr
  have hu64 := hr.units
  have tk : Takes (cxOf (L2.CX P w) P w K mg base ["plan", "rate"] "need_plan_at" (defScope st_need_plan_at) (ad 16) cdv A outer s H E) (WE0 E) := takes_of rfl rfl rfl rfl
  have ps : PassesOwn (model P w) (cxOf (L2.CX P w) P w K mg base ["plan", "rate"] "need_plan_at" (defScope st_need_plan_at) (ad 16) cdv A outer s H E).A (cxOf (L2.CX P w) P w K mg base ["plan", "rate"] "need_plan_at" (defScope st_need_plan_at) (ad 16) cdv A outer s H E).env (cxOf (L2.CX P w) P w K mg base ["plan", "rate"] "need_plan_at" (defScope st_need_plan_at) (ad 16) cdv A outer s H E).xe := passes_of rfl
  exact (hCons (hExpr (dCall G_need_end_plan (hr.mono (by omega)) (by rfl) T.m_need_end_plan T.k_need_end_plan T.b_need_end_plan tk (aCons (dVar (pv 0)) aNil) (lCons_len lNil_len)))
    (hOne (hExpr (dCall G_need_up_rate (hr.mono (by omega)) (by rfl) T.m_need_up_rate T.k_need_up_rate T.b_need_up_rate tk (aCons (dVar (pv 1)) aNil) (lCons_len lNil_len)))))
theorem ok_lowest (T : Txt K mg ad fd) (F : Fun K "lowest" "lowest" st_lowest (ad 17) (fd 17)) (G_divisor_of : FnOk P w K mg base (L2.CX P w) 1 (ad 12) (fd 12) ["one", "other"] (SpD K cl 2 g_divisor_of)) : FnOk P w K mg base (L2.CX P w) 2 (ad 17) (fd 17) ["above", "below"] (SpD K cl 2 g_lowest) := show FnOk P w K mg base (L2.CX P w) 2 (ad 17) (fd 17) ["above", "below"] (SpD K cl 2 (bodyD F_lowest 3)) from okD2 (k := 1) (N := ["above", "below", "part"]) (ps := ["above", "below"]) F_lowest F sc_lowest rfl rfl (by decide) fun cdv A outer s H E hr => by
  have nd := sc_lowest.nd
  have hu := hu_of hr
  have hu64 := hr.units
  have tk : Takes (cxOf (L2.CX P w) P w K mg base ["above", "below", "part"] "lowest" (defScope st_lowest) (ad 17) cdv A outer s H E) (WE0 E) := takes_of rfl rfl rfl rfl
  have ps : PassesOwn (model P w) (cxOf (L2.CX P w) P w K mg base ["above", "below", "part"] "lowest" (defScope st_lowest) (ad 17) cdv A outer s H E).A (cxOf (L2.CX P w) P w K mg base ["above", "below", "part"] "lowest" (defScope st_lowest) (ad 17) cdv A outer s H E).env (cxOf (L2.CX P w) P w K mg base ["above", "below", "part"] "lowest" (defScope st_lowest) (ad 17) cdv A outer s H E).xe := passes_of rfl
  exact (hCons (hAsg (ps_set (i := 2) nd rfl (.inl rfl) (dBin op_mulD o_mul (dCall G_divisor_of (hr.mono (by omega)) (by rfl) T.m_divisor_of T.k_divisor_of T.b_divisor_of tk (aCons (dVar (pv 0)) (aCons (dVar (pv 1)) aNil)) (lCons_len (lCons_len lNil_len))) (dIf (bCmp op_gt o_cmpI (dVar (pv 1)) dInt (nomark _)) dInt (dUn un_neg o_neg dInt)))))
    (hOne (hRet (dTup (aCons (dBin op_divD o_div (dVar (pv 0)) (dVar (pv 2))) (aCons (dBin op_divD o_div (dVar (pv 1)) (dVar (pv 2))) aNil))))))
theorem ok_many_times (T : Txt K mg ad fd) (F : Fun K "many_times" "many_times" st_many_times (ad 18) (fd 18)) : FnOk P w K mg base (L2.CX P w) 1 (ad 18) (fd 18) ["number", "times"] (SpD K cl 2 g_many_times) := show FnOk P w K mg base (L2.CX P w) 1 (ad 18) (fd 18) ["number", "times"] (SpD K cl 2 (bodyD F_many_times 4)) from okD2 (k := 0) (N := ["number", "times", "found", "turn"]) (ps := ["number", "times"]) F_many_times F sc_many_times rfl rfl (by decide) fun cdv A outer s H E hr => by
  have nd := sc_many_times.nd
  have hu := hu_of hr
  have hu64 := hr.units
  have tk : Takes (cxOf (L2.CX P w) P w K mg base ["number", "times", "found", "turn"] "many_times" (defScope st_many_times) (ad 18) cdv A outer s H E) (WE0 E) := takes_of rfl rfl rfl rfl
  have ps : PassesOwn (model P w) (cxOf (L2.CX P w) P w K mg base ["number", "times", "found", "turn"] "many_times" (defScope st_many_times) (ad 18) cdv A outer s H E).A (cxOf (L2.CX P w) P w K mg base ["number", "times", "found", "turn"] "many_times" (defScope st_many_times) (ad 18) cdv A outer s H E).env (cxOf (L2.CX P w) P w K mg base ["number", "times", "found", "turn"] "many_times" (defScope st_many_times) (ad 18) cdv A outer s H E).xe := passes_of rfl
  exact (hCons (hAsg (ps_set (i := 2) nd rfl (.inl rfl) dInt))
    (hCons (hFor (ps_for ps rfl (jRg1 (by rfl) T.z_range (aCons (dVar (pv 1)) aNil)) (kN (pg_name (i := 3) nd rfl (.inl rfl))) (hOne (hAsg (ps_set (i := 2) nd rfl (.inl rfl) (dBin op_mulD o_mul (dVar (pv 2)) (dVar (pv 0))))))))
    (hOne (hRet (dVar (pv 2))))))
theorem ok_point_chance (T : Txt K mg ad fd) (F : Fun K "point_chance" "point_chance" st_point_chance (ad 19) (fd 19)) (G_many_times : FnOk P w K mg base (L2.CX P w) 1 (ad 18) (fd 18) ["number", "times"] (SpD K cl 2 g_many_times)) (G_lowest : FnOk P w K mg base (L2.CX P w) 2 (ad 17) (fd 17) ["above", "below"] (SpD K cl 2 g_lowest)) : FnOk P w K mg base (L2.CX P w) 3 (ad 19) (fd 19) ["rate", "many", "ups", "ways"] (SpD K cl 4 g_point_chance) := show FnOk P w K mg base (L2.CX P w) 3 (ad 19) (fd 19) ["rate", "many", "ups", "ways"] (SpD K cl 4 (bodyD F_point_chance 6)) from okD2 (k := 2) (N := ["rate", "many", "ups", "ways", "above", "below"]) (ps := ["rate", "many", "ups", "ways"]) F_point_chance F sc_point_chance rfl rfl (by decide) fun cdv A outer s H E hr => by
  have nd := sc_point_chance.nd
  have hu := hu_of hr
  have hu64 := hr.units
  have tk : Takes (cxOf (L2.CX P w) P w K mg base ["rate", "many", "ups", "ways", "above", "below"] "point_chance" (defScope st_point_chance) (ad 19) cdv A outer s H E) (WE0 E) := takes_of rfl rfl rfl rfl
  have ps : PassesOwn (model P w) (cxOf (L2.CX P w) P w K mg base ["rate", "many", "ups", "ways", "above", "below"] "point_chance" (defScope st_point_chance) (ad 19) cdv A outer s H E).A (cxOf (L2.CX P w) P w K mg base ["rate", "many", "ups", "ways", "above", "below"] "point_chance" (defScope st_point_chance) (ad 19) cdv A outer s H E).env (cxOf (L2.CX P w) P w K mg base ["rate", "many", "ups", "ways", "above", "below"] "point_chance" (defScope st_point_chance) (ad 19) cdv A outer s H E).xe := passes_of rfl
  exact (hCons (hAsgG (ps_asg (dVar (pv 0)) (kT (pg_tup rfl (kC (kN (pg_name (i := 4) nd rfl (.inl rfl))) (kC (kN (pg_name (i := 5) nd rfl (.inl rfl))) kE (pgs_cons (kN (pg_name (i := 5) nd rfl (.inl rfl))) kE)) (pgs_cons (kN (pg_name (i := 4) nd rfl (.inl rfl))) (kC (kN (pg_name (i := 5) nd rfl (.inl rfl))) kE (pgs_cons (kN (pg_name (i := 5) nd rfl (.inl rfl))) kE))))) (gs_len (gs_len gE_len)))))
    (hOne (hRet (dCall G_lowest (hr.mono (by omega)) (by rfl) T.m_lowest T.k_lowest T.b_lowest tk (aCons (dBin op_mulD o_mul (dBin op_mulD o_mul (dVar (pv 3)) (dCall G_many_times (hr.mono (by omega)) (by rfl) T.m_many_times T.k_many_times T.b_many_times tk (aCons (dVar (pv 4)) (aCons (dVar (pv 2)) aNil)) (lCons_len (lCons_len lNil_len)))) (dCall G_many_times (hr.mono (by omega)) (by rfl) T.m_many_times T.k_many_times T.b_many_times tk (aCons (dBin op_sub o_sub (dVar (pv 5)) (dVar (pv 4))) (aCons (dBin op_sub o_sub (dVar (pv 1)) (dVar (pv 2))) aNil)) (lCons_len (lCons_len lNil_len)))) (aCons (dCall G_many_times (hr.mono (by omega)) (by rfl) T.m_many_times T.k_many_times T.b_many_times tk (aCons (dVar (pv 5)) (aCons (dVar (pv 1)) aNil)) (lCons_len (lCons_len lNil_len))) aNil)) (lCons_len (lCons_len lNil_len))))))
theorem ok_layers_of_plan (T : Txt K mg ad fd) (F : Fun K "layers_of_plan" "layers_of_plan" st_layers_of_plan (ad 20) (fd 20)) : FnOk P w K mg base (L2.CX P w) 1 (ad 20) (fd 20) ["plan"] (SpD K cl 1 g_layers_of_plan) := show FnOk P w K mg base (L2.CX P w) 1 (ad 20) (fd 20) ["plan"] (SpD K cl 1 (bodyD F_layers_of_plan 11)) from okD2 (k := 0) (N := ["plan", "opened", "ended", "low", "high", "ahead", "here", "one", "other", "ups", "ways"]) (ps := ["plan"]) F_layers_of_plan F sc_layers_of_plan rfl rfl (by decide) fun cdv A outer s H E hr => by
  have nd := sc_layers_of_plan.nd
  have hu := hu_of hr
  have hu64 := hr.units
  have tk : Takes (cxOf (L2.CX P w) P w K mg base ["plan", "opened", "ended", "low", "high", "ahead", "here", "one", "other", "ups", "ways"] "layers_of_plan" (defScope st_layers_of_plan) (ad 20) cdv A outer s H E) (WE0 E) := takes_of rfl rfl rfl rfl
  have ps : PassesOwn (model P w) (cxOf (L2.CX P w) P w K mg base ["plan", "opened", "ended", "low", "high", "ahead", "here", "one", "other", "ups", "ways"] "layers_of_plan" (defScope st_layers_of_plan) (ad 20) cdv A outer s H E).A (cxOf (L2.CX P w) P w K mg base ["plan", "opened", "ended", "low", "high", "ahead", "here", "one", "other", "ups", "ways"] "layers_of_plan" (defScope st_layers_of_plan) (ad 20) cdv A outer s H E).env (cxOf (L2.CX P w) P w K mg base ["plan", "opened", "ended", "low", "high", "ahead", "here", "one", "other", "ups", "ways"] "layers_of_plan" (defScope st_layers_of_plan) (ad 20) cdv A outer s H E).xe := passes_of rfl
  exact (hCons (hPar2 (ps_par (i := 1) (j := 2) rfl nd rfl rfl (by decide) rfl rfl (jNew (dLst (aCons (dFE (dLst (aCons dInt aNil))) aNil)) (jNew (dLst aNil) jNil pl_mNil) (pl_mNew (pl_Lst pl_lNil) pl_mNil)) (by rfl)))
    (hCons (hFor (ps_for ps rfl (jSeq (dVar (pv 0))) (kT (pg_tup rfl (kC (kN (pg_name (i := 3) nd rfl (.inr rfl))) (kC (kN (pg_name (i := 4) nd rfl (.inr rfl))) kE (pgs_cons (kN (pg_name (i := 4) nd rfl (.inr rfl))) kE)) (pgs_cons (kN (pg_name (i := 3) nd rfl (.inr rfl))) (kC (kN (pg_name (i := 4) nd rfl (.inr rfl))) kE (pgs_cons (kN (pg_name (i := 4) nd rfl (.inr rfl))) kE))))) (gs_len (gs_len gE_len))) (hCons (hAsg (ps_set (i := 5) nd rfl (.inl rfl) (dIxO (pv 1) (dUn un_neg o_neg dInt) (fun _ _ => rfl))))
    (hCons (hAsgLcV (ps_setLc (own := [("one", 7), ("other", 8)]) (i := 6) rfl nd rfl rfl (sw_true rfl rfl rfl rfl) (jZipA (RZ.pi_zipA (by rfl) T.z_zip (aCons (dBin op_addD o_add (dVar (pv 5)) (dFE (dLst (aCons dInt aNil)))) (aCons (dBin op_addD o_add (dFE (dLst (aCons dInt aNil))) (dVar (pv 5))) aNil)))) (blkOk_by (N := ["plan", "opened", "ended", "low", "high", "ahead", "here", "one", "other", "ups", "ways"]) (sc := defScope st_layers_of_plan) (by decide +kernel)) (fun _ _ _ _ _ => (kT (pg_tup rfl (kC (kN (pg_name (i := 7) nd rfl (.inl rfl))) (kC (kN (pg_name (i := 8) nd rfl (.inl rfl))) kE (pgs_cons (kN (pg_name (i := 8) nd rfl (.inl rfl))) kE)) (pgs_cons (kN (pg_name (i := 7) nd rfl (.inl rfl))) (kC (kN (pg_name (i := 8) nd rfl (.inl rfl))) kE (pgs_cons (kN (pg_name (i := 8) nd rfl (.inl rfl))) kE))))) (gs_len (gs_len gE_len)))) (fun _ _ _ _ _ => bNilT) (fun _ _ _ _ _ => (dBin op_addD o_add (dVar (pv 7)) (dVar (pv 8))))))
    (hCons (hApp (ps_expr (pe_bm PySem.F.plainAttrs_list PySem.F.slot_list_append PySem.F.type_list_append mt_append (pv 1) (pa_cons (dFE (dLc (pe_lc (own := [("ups", 9), ("ways", 10)]) rfl nd (jEnumA (dVar (pv 6)) (by rfl) T.z_enumerate) (blkOk_by (N := ["plan", "opened", "ended", "low", "high", "ahead", "here", "one", "other", "ups", "ways"]) (sc := defScope st_layers_of_plan) (by decide +kernel)) (fun _ _ _ _ _ => (kT (pg_tup rfl (kC (kN (pg_name (i := 9) nd rfl (.inl rfl))) (kC (kN (pg_name (i := 10) nd rfl (.inl rfl))) kE (pgs_cons (kN (pg_name (i := 10) nd rfl (.inl rfl))) kE)) (pgs_cons (kN (pg_name (i := 9) nd rfl (.inl rfl))) (kC (kN (pg_name (i := 10) nd rfl (.inl rfl))) kE (pgs_cons (kN (pg_name (i := 10) nd rfl (.inl rfl))) kE))))) (gs_len (gs_len gE_len)))) (fun _ _ _ _ _ => bNilT) (fun _ _ _ _ _ => (dIf (bChain op_lt o_cmpI op_lt o_cmpI (dVar (pv 3)) (dVar (pv 9)) (dVar (pv 4))) (dVar (pv 10)) dInt))))) pa_nil))))
    (hOne (hApp (ps_expr (pe_bm PySem.F.plainAttrs_list PySem.F.slot_list_append PySem.F.type_list_append mt_append (pv 2) (pa_cons (dFE (dLc (pe_lc (own := [("ups", 9), ("ways", 10)]) rfl nd (jEnumA (dVar (pv 6)) (by rfl) T.z_enumerate) (blkOk_by (N := ["plan", "opened", "ended", "low", "high", "ahead", "here", "one", "other", "ups", "ways"]) (sc := defScope st_layers_of_plan) (by decide +kernel)) (fun _ _ _ _ _ => (kT (pg_tup rfl (kC (kN (pg_name (i := 9) nd rfl (.inl rfl))) (kC (kN (pg_name (i := 10) nd rfl (.inl rfl))) kE (pgs_cons (kN (pg_name (i := 10) nd rfl (.inl rfl))) kE)) (pgs_cons (kN (pg_name (i := 9) nd rfl (.inl rfl))) (kC (kN (pg_name (i := 10) nd rfl (.inl rfl))) kE (pgs_cons (kN (pg_name (i := 10) nd rfl (.inl rfl))) kE))))) (gs_len (gs_len gE_len)))) (fun _ _ _ _ _ => bNilT) (fun _ _ _ _ _ => (dIf (bChain op_lt o_cmpI op_lt o_cmpI (dVar (pv 3)) (dVar (pv 9)) (dVar (pv 4))) dInt (dVar (pv 10))))))) pa_nil))))))))))
    (hOne (hFrz (i := 2) (hFrz (i := 1) (hRet (dTup (aCons (dVar (pv 1)) (aCons (dVar (pv 2)) aNil)))))))))
theorem ok_points_in_plan (T : Txt K mg ad fd) (F : Fun K "points_in_plan" "points_in_plan" st_points_in_plan (ad 21) (fd 21)) (G_layers_of_plan : FnOk P w K mg base (L2.CX P w) 1 (ad 20) (fd 20) ["plan"] (SpD K cl 1 g_layers_of_plan)) : FnOk P w K mg base (L2.CX P w) 2 (ad 21) (fd 21) ["plan"] (SpD K cl 1 g_points_in_plan) := show FnOk P w K mg base (L2.CX P w) 2 (ad 21) (fd 21) ["plan"] (SpD K cl 1 (bodyD F_points_in_plan 6)) from okD2 (k := 1) (N := ["plan", "found", "at", "row", "ups", "ways"]) (ps := ["plan"]) F_points_in_plan F sc_points_in_plan rfl rfl (by decide) fun cdv A outer s H E hr => by
  have nd := sc_points_in_plan.nd
  have hu := hu_of hr
  have hu64 := hr.units
  have tk : Takes (cxOf (L2.CX P w) P w K mg base ["plan", "found", "at", "row", "ups", "ways"] "points_in_plan" (defScope st_points_in_plan) (ad 21) cdv A outer s H E) (WE0 E) := takes_of rfl rfl rfl rfl
  have ps : PassesOwn (model P w) (cxOf (L2.CX P w) P w K mg base ["plan", "found", "at", "row", "ups", "ways"] "points_in_plan" (defScope st_points_in_plan) (ad 21) cdv A outer s H E).A (cxOf (L2.CX P w) P w K mg base ["plan", "found", "at", "row", "ups", "ways"] "points_in_plan" (defScope st_points_in_plan) (ad 21) cdv A outer s H E).env (cxOf (L2.CX P w) P w K mg base ["plan", "found", "at", "row", "ups", "ways"] "points_in_plan" (defScope st_points_in_plan) (ad 21) cdv A outer s H E).xe := passes_of rfl
  exact (hCons (hAsg (ps_set (i := 1) nd rfl (.inl rfl) (dFE (dLst aNil))))
    (hCons (hFor (ps_for ps rfl (jEnumA (dIx (dCall G_layers_of_plan (hr.mono (by omega)) (by rfl) T.m_layers_of_plan T.k_layers_of_plan T.b_layers_of_plan tk (aCons (dVar (pv 0)) aNil) (lCons_len lNil_len)) dInt (fun _ _ => rfl)) (by rfl) T.z_enumerate) (kT (pg_tup rfl (kC (kN (pg_name (i := 2) nd rfl (.inr rfl))) (kC (kN (pg_name (i := 3) nd rfl (.inl rfl))) kE (pgs_cons (kN (pg_name (i := 3) nd rfl (.inl rfl))) kE)) (pgs_cons (kN (pg_name (i := 2) nd rfl (.inr rfl))) (kC (kN (pg_name (i := 3) nd rfl (.inl rfl))) kE (pgs_cons (kN (pg_name (i := 3) nd rfl (.inl rfl))) kE))))) (gs_len (gs_len gE_len))) (hOne (hAsg (ps_set (i := 1) nd rfl (.inl rfl) (dBin op_addD o_add (dVar (pv 1)) (dFE (dLc (pe_lc (own := [("ups", 4), ("ways", 5)]) rfl nd (jEnumA (dVar (pv 3)) (by rfl) T.z_enumerate) (blkOk_by (N := ["plan", "found", "at", "row", "ups", "ways"]) (sc := defScope st_points_in_plan) (by decide +kernel)) (fun _ _ _ _ _ => (kT (pg_tup rfl (kC (kN (pg_name (i := 4) nd rfl (.inl rfl))) (kC (kN (pg_name (i := 5) nd rfl (.inl rfl))) kE (pgs_cons (kN (pg_name (i := 5) nd rfl (.inl rfl))) kE)) (pgs_cons (kN (pg_name (i := 4) nd rfl (.inl rfl))) (kC (kN (pg_name (i := 5) nd rfl (.inl rfl))) kE (pgs_cons (kN (pg_name (i := 5) nd rfl (.inl rfl))) kE))))) (gs_len (gs_len gE_len)))) (fun _ _ _ _ _ => (pts_one (bCmp op_gt o_cmpI (dVar (pv 5)) dInt (nomark _)))) (fun _ _ _ _ _ => (dTup (aCons (dBin op_addD o_add (dVar (pv 2)) dInt) (aCons (dVar (pv 4)) (aCons (dVar (pv 5)) aNil))))))))))))))
    (hOne (hRet (dVar (pv 1))))))
theorem ok_chances_of_points (T : Txt K mg ad fd) (F : Fun K "chances_of_points" "chances_of_points" st_chances_of_points (ad 22) (fd 22)) (G_points_in_plan : FnOk P w K mg base (L2.CX P w) 2 (ad 21) (fd 21) ["plan"] (SpD K cl 1 g_points_in_plan)) (G_point_chance : FnOk P w K mg base (L2.CX P w) 3 (ad 19) (fd 19) ["rate", "many", "ups", "ways"] (SpD K cl 4 g_point_chance)) : FnOk P w K mg base (L2.CX P w) 4 (ad 22) (fd 22) ["plan", "rate"] (SpD K cl 2 g_chances_of_points) := show FnOk P w K mg base (L2.CX P w) 4 (ad 22) (fd 22) ["plan", "rate"] (SpD K cl 2 (bodyD F_chances_of_points 5)) from okD2 (k := 3) (N := ["plan", "rate", "many", "ups", "ways"]) (ps := ["plan", "rate"]) F_chances_of_points F sc_chances_of_points rfl rfl (by decide) fun cdv A outer s H E hr => by
  have nd := sc_chances_of_points.nd
  have hu := hu_of hr
  have hu64 := hr.units
  have tk : Takes (cxOf (L2.CX P w) P w K mg base ["plan", "rate", "many", "ups", "ways"] "chances_of_points" (defScope st_chances_of_points) (ad 22) cdv A outer s H E) (WE0 E) := takes_of rfl rfl rfl rfl
  have ps : PassesOwn (model P w) (cxOf (L2.CX P w) P w K mg base ["plan", "rate", "many", "ups", "ways"] "chances_of_points" (defScope st_chances_of_points) (ad 22) cdv A outer s H E).A (cxOf (L2.CX P w) P w K mg base ["plan", "rate", "many", "ups", "ways"] "chances_of_points" (defScope st_chances_of_points) (ad 22) cdv A outer s H E).env (cxOf (L2.CX P w) P w K mg base ["plan", "rate", "many", "ups", "ways"] "chances_of_points" (defScope st_chances_of_points) (ad 22) cdv A outer s H E).xe := passes_of rfl
  exact (hOne (hRet (dFE (dLc (pe_lc (own := [("many", 2), ("ups", 3), ("ways", 4)]) rfl nd (jSeq (dCall G_points_in_plan (hr.mono (by omega)) (by rfl) T.m_points_in_plan T.k_points_in_plan T.b_points_in_plan tk (aCons (dVar (pv 0)) aNil) (lCons_len lNil_len))) (blkOk_by (N := ["plan", "rate", "many", "ups", "ways"]) (sc := defScope st_chances_of_points) (by decide +kernel)) (fun _ _ _ _ _ => (kT (pg_tup rfl (kC (kN (pg_name (i := 2) nd rfl (.inl rfl))) (kC (kN (pg_name (i := 3) nd rfl (.inl rfl))) (kC (kN (pg_name (i := 4) nd rfl (.inl rfl))) kE (pgs_cons (kN (pg_name (i := 4) nd rfl (.inl rfl))) kE)) (pgs_cons (kN (pg_name (i := 3) nd rfl (.inl rfl))) (kC (kN (pg_name (i := 4) nd rfl (.inl rfl))) kE (pgs_cons (kN (pg_name (i := 4) nd rfl (.inl rfl))) kE)))) (pgs_cons (kN (pg_name (i := 2) nd rfl (.inl rfl))) (kC (kN (pg_name (i := 3) nd rfl (.inl rfl))) (kC (kN (pg_name (i := 4) nd rfl (.inl rfl))) kE (pgs_cons (kN (pg_name (i := 4) nd rfl (.inl rfl))) kE)) (pgs_cons (kN (pg_name (i := 3) nd rfl (.inl rfl))) (kC (kN (pg_name (i := 4) nd rfl (.inl rfl))) kE (pgs_cons (kN (pg_name (i := 4) nd rfl (.inl rfl))) kE))))))) (gs_len (gs_len (gs_len gE_len))))) (fun _ _ _ _ _ => bNilT) (fun _ _ _ _ _ => (dTup (aCons (dVar (pv 2)) (aCons (dVar (pv 3)) (aCons (dCall G_point_chance (hr.mono (by omega)) (by rfl) T.m_point_chance T.k_point_chance T.b_point_chance takes0 (aCons (dVar (pv 1)) (aCons (dVar (pv 2)) (aCons (dVar (pv 3)) (aCons (dVar (pv 4)) aNil)))) (lCons_len (lCons_len (lCons_len (lCons_len lNil_len))))) aNil))))))))))
theorem ok_sum_in (T : Txt K mg ad fd) (F : Fun K "sum_in" "sum_in" st_sum_in (ad 23) (fd 23)) (G_lowest : FnOk P w K mg base (L2.CX P w) 2 (ad 17) (fd 17) ["above", "below"] (SpD K cl 2 g_lowest)) : FnOk P w K mg base (L2.CX P w) 3 (ad 23) (fd 23) ["one", "other"] (SpD K cl 2 g_sum_in) := show FnOk P w K mg base (L2.CX P w) 3 (ad 23) (fd 23) ["one", "other"] (SpD K cl 2 (bodyD F_sum_in 2)) from okD2 (k := 2) (N := ["one", "other"]) (ps := ["one", "other"]) F_sum_in F sc_sum_in rfl rfl (by decide) fun cdv A outer s H E hr => by
  have nd := sc_sum_in.nd
  have hu := hu_of hr
  have hu64 := hr.units
  have tk : Takes (cxOf (L2.CX P w) P w K mg base ["one", "other"] "sum_in" (defScope st_sum_in) (ad 23) cdv A outer s H E) (WE0 E) := takes_of rfl rfl rfl rfl
  have ps : PassesOwn (model P w) (cxOf (L2.CX P w) P w K mg base ["one", "other"] "sum_in" (defScope st_sum_in) (ad 23) cdv A outer s H E).A (cxOf (L2.CX P w) P w K mg base ["one", "other"] "sum_in" (defScope st_sum_in) (ad 23) cdv A outer s H E).env (cxOf (L2.CX P w) P w K mg base ["one", "other"] "sum_in" (defScope st_sum_in) (ad 23) cdv A outer s H E).xe := passes_of rfl
  exact (hOne (hRet (dCall G_lowest (hr.mono (by omega)) (by rfl) T.m_lowest T.k_lowest T.b_lowest tk (aCons (dBin op_addD o_add (dBin op_mulD o_mul (dIx (dVar (pv 0)) dInt (fun _ _ => rfl)) (dIx (dVar (pv 1)) dInt (fun _ _ => rfl))) (dBin op_mulD o_mul (dIx (dVar (pv 1)) dInt (fun _ _ => rfl)) (dIx (dVar (pv 0)) dInt (fun _ _ => rfl)))) (aCons (dBin op_mulD o_mul (dIx (dVar (pv 0)) dInt (fun _ _ => rfl)) (dIx (dVar (pv 1)) dInt (fun _ _ => rfl))) aNil)) (lCons_len (lCons_len lNil_len)))))
theorem ok_sum_over (T : Txt K mg ad fd) (F : Fun K "sum_over" "sum_over" st_sum_over (ad 24) (fd 24)) (G_sum_in : FnOk P w K mg base (L2.CX P w) 3 (ad 23) (fd 23) ["one", "other"] (SpD K cl 2 g_sum_in)) : FnOk P w K mg base (L2.CX P w) 4 (ad 24) (fd 24) ["fractions"] (SpD K cl 1 g_sum_over) := show FnOk P w K mg base (L2.CX P w) 4 (ad 24) (fd 24) ["fractions"] (SpD K cl 1 (bodyD F_sum_over 3)) from okD2 (k := 3) (N := ["fractions", "found", "fraction"]) (ps := ["fractions"]) F_sum_over F sc_sum_over rfl rfl (by decide) fun cdv A outer s H E hr => by
  have nd := sc_sum_over.nd
  have hu := hu_of hr
  have hu64 := hr.units
  have tk : Takes (cxOf (L2.CX P w) P w K mg base ["fractions", "found", "fraction"] "sum_over" (defScope st_sum_over) (ad 24) cdv A outer s H E) (WE0 E) := takes_of rfl rfl rfl rfl
  have ps : PassesOwn (model P w) (cxOf (L2.CX P w) P w K mg base ["fractions", "found", "fraction"] "sum_over" (defScope st_sum_over) (ad 24) cdv A outer s H E).A (cxOf (L2.CX P w) P w K mg base ["fractions", "found", "fraction"] "sum_over" (defScope st_sum_over) (ad 24) cdv A outer s H E).env (cxOf (L2.CX P w) P w K mg base ["fractions", "found", "fraction"] "sum_over" (defScope st_sum_over) (ad 24) cdv A outer s H E).xe := passes_of rfl
  exact (hCons (hAsg (ps_set (i := 1) nd rfl (.inl rfl) (dC (pe_glob (v := .ref _) (by rfl) T.c_NONE.choose_spec.1 rfl) T.c_NONE.choose_spec.2)))
    (hCons (hFor (ps_for ps rfl (jSeq (dVar (pv 0))) (kN (pg_name (i := 2) nd rfl (.inl rfl))) (hOne (hAsg (ps_set (i := 1) nd rfl (.inl rfl) (dCall G_sum_in (hr.mono (by omega)) (by rfl) T.m_sum_in T.k_sum_in T.b_sum_in tk (aCons (dVar (pv 1)) (aCons (dVar (pv 2)) aNil)) (lCons_len (lCons_len lNil_len))))))))
    (hOne (hRet (dVar (pv 1))))))
theorem ok_part_up (T : Txt K mg ad fd) (F : Fun K "part_up" "part_up" st_part_up (ad 25) (fd 25)) (G_chances_of_points : FnOk P w K mg base (L2.CX P w) 4 (ad 22) (fd 22) ["plan", "rate"] (SpD K cl 2 g_chances_of_points)) (G_sum_over : FnOk P w K mg base (L2.CX P w) 4 (ad 24) (fd 24) ["fractions"] (SpD K cl 1 g_sum_over)) : FnOk P w K mg base (L2.CX P w) 5 (ad 25) (fd 25) ["plan", "rate", "is_up"] (SpD K cl 3 g_part_up) := show FnOk P w K mg base (L2.CX P w) 5 (ad 25) (fd 25) ["plan", "rate", "is_up"] (SpD K cl 3 (bodyD F_part_up 7)) from okD2 (k := 4) (N := ["plan", "rate", "is_up", "found", "many", "ups", "chance"]) (ps := ["plan", "rate", "is_up"]) F_part_up F sc_part_up rfl rfl (by decide) fun cdv A outer s H E hr => by
  have nd := sc_part_up.nd
  have hu := hu_of hr
  have hu64 := hr.units
  have tk : Takes (cxOf (L2.CX P w) P w K mg base ["plan", "rate", "is_up", "found", "many", "ups", "chance"] "part_up" (defScope st_part_up) (ad 25) cdv A outer s H E) (WE0 E) := takes_of rfl rfl rfl rfl
  have ps : PassesOwn (model P w) (cxOf (L2.CX P w) P w K mg base ["plan", "rate", "is_up", "found", "many", "ups", "chance"] "part_up" (defScope st_part_up) (ad 25) cdv A outer s H E).A (cxOf (L2.CX P w) P w K mg base ["plan", "rate", "is_up", "found", "many", "ups", "chance"] "part_up" (defScope st_part_up) (ad 25) cdv A outer s H E).env (cxOf (L2.CX P w) P w K mg base ["plan", "rate", "is_up", "found", "many", "ups", "chance"] "part_up" (defScope st_part_up) (ad 25) cdv A outer s H E).xe := passes_of rfl
  exact (hCons (hAsgF (ps_set (i := 3) nd rfl (.inl rfl) (dLst aNil)))
    (hCons (hFor (ps_for ps rfl (jSeq (dCall G_chances_of_points (hr.mono (by omega)) (by rfl) T.m_chances_of_points T.k_chances_of_points T.b_chances_of_points tk (aCons (dVar (pv 0)) (aCons (dVar (pv 1)) aNil)) (lCons_len (lCons_len lNil_len)))) (kT (pg_tup rfl (kC (kN (pg_name (i := 4) nd rfl (.inl rfl))) (kC (kN (pg_name (i := 5) nd rfl (.inl rfl))) (kC (kN (pg_name (i := 6) nd rfl (.inl rfl))) kE (pgs_cons (kN (pg_name (i := 6) nd rfl (.inl rfl))) kE)) (pgs_cons (kN (pg_name (i := 5) nd rfl (.inl rfl))) (kC (kN (pg_name (i := 6) nd rfl (.inl rfl))) kE (pgs_cons (kN (pg_name (i := 6) nd rfl (.inl rfl))) kE)))) (pgs_cons (kN (pg_name (i := 4) nd rfl (.inl rfl))) (kC (kN (pg_name (i := 5) nd rfl (.inl rfl))) (kC (kN (pg_name (i := 6) nd rfl (.inl rfl))) kE (pgs_cons (kN (pg_name (i := 6) nd rfl (.inl rfl))) kE)) (pgs_cons (kN (pg_name (i := 5) nd rfl (.inl rfl))) (kC (kN (pg_name (i := 6) nd rfl (.inl rfl))) kE (pgs_cons (kN (pg_name (i := 6) nd rfl (.inl rfl))) kE))))))) (gs_len (gs_len (gs_len gE_len)))) (hOne (hIf (bCmp (op_eqD hu64) o_eq (dCmp op_ge o_cmpI (dVar (pv 5)) (dIx (dIx (dVar (pv 0)) (dBin op_sub o_sub (dVar (pv 4)) dInt) (fun _ _ => rfl)) dInt (fun _ _ => rfl)) (nomark _)) (dVar (pv 2)) (nomark _)) (hOne (hApp (ps_expr (pe_bm PySem.F.plainAttrs_list PySem.F.slot_list_append PySem.F.type_list_append mt_append (pv 3) (pa_cons (dVar (pv 6)) pa_nil))))) hNil))))
    (hOne (hFrz (i := 3) (hRet (dCall G_sum_over (hr.mono (by omega)) (by rfl) T.m_sum_over T.k_sum_over T.b_sum_over tk (aCons (dVar (pv 3)) aNil) (lCons_len lNil_len)))))))
theorem ok_chance_up (T : Txt K mg ad fd) (F : Fun K "chance_up" "chance_up" st_chance_up (ad 26) (fd 26)) (G_need_plan_at : FnOk P w K mg base (L2.CX P w) 6 (ad 16) (fd 16) ["plan", "rate"] (SpD K cl 2 g_need_plan_at)) (G_part_up : FnOk P w K mg base (L2.CX P w) 5 (ad 25) (fd 25) ["plan", "rate", "is_up"] (SpD K cl 3 g_part_up)) : FnOk P w K mg base (L2.CX P w) 7 (ad 26) (fd 26) ["plan", "rate"] (SpD K cl 2 g_chance_up) := show FnOk P w K mg base (L2.CX P w) 7 (ad 26) (fd 26) ["plan", "rate"] (SpD K cl 2 (bodyD F_chance_up 2)) from okD2 (k := 6) (N := ["plan", "rate"]) (ps := ["plan", "rate"]) F_chance_up F sc_chance_up rfl rfl (by decide) fun cdv A outer s H E hr => by
  have nd := sc_chance_up.nd
  have hu := hu_of hr
  have hu64 := hr.units
  have tk : Takes (cxOf (L2.CX P w) P w K mg base ["plan", "rate"] "chance_up" (defScope st_chance_up) (ad 26) cdv A outer s H E) (WE0 E) := takes_of rfl rfl rfl rfl
  have ps : PassesOwn (model P w) (cxOf (L2.CX P w) P w K mg base ["plan", "rate"] "chance_up" (defScope st_chance_up) (ad 26) cdv A outer s H E).A (cxOf (L2.CX P w) P w K mg base ["plan", "rate"] "chance_up" (defScope st_chance_up) (ad 26) cdv A outer s H E).env (cxOf (L2.CX P w) P w K mg base ["plan", "rate"] "chance_up" (defScope st_chance_up) (ad 26) cdv A outer s H E).xe := passes_of rfl
  exact (hCons (hExpr (dCall G_need_plan_at (hr.mono (by omega)) (by rfl) T.m_need_plan_at T.k_need_plan_at T.b_need_plan_at tk (aCons (dVar (pv 0)) (aCons (dVar (pv 1)) aNil)) (lCons_len (lCons_len lNil_len))))
    (hOne (hRet (dCall G_part_up (hr.mono (by omega)) (by rfl) T.m_part_up T.k_part_up T.b_part_up tk (aCons (dVar (pv 0)) (aCons (dVar (pv 1)) (aCons dBl aNil))) (lCons_len (lCons_len (lCons_len lNil_len)))))))
theorem ok_chance_down (T : Txt K mg ad fd) (F : Fun K "chance_down" "chance_down" st_chance_down (ad 27) (fd 27)) (G_need_plan_at : FnOk P w K mg base (L2.CX P w) 6 (ad 16) (fd 16) ["plan", "rate"] (SpD K cl 2 g_need_plan_at)) (G_part_up : FnOk P w K mg base (L2.CX P w) 5 (ad 25) (fd 25) ["plan", "rate", "is_up"] (SpD K cl 3 g_part_up)) : FnOk P w K mg base (L2.CX P w) 7 (ad 27) (fd 27) ["plan", "rate"] (SpD K cl 2 g_chance_down) := show FnOk P w K mg base (L2.CX P w) 7 (ad 27) (fd 27) ["plan", "rate"] (SpD K cl 2 (bodyD F_chance_down 2)) from okD2 (k := 6) (N := ["plan", "rate"]) (ps := ["plan", "rate"]) F_chance_down F sc_chance_down rfl rfl (by decide) fun cdv A outer s H E hr => by
  have nd := sc_chance_down.nd
  have hu := hu_of hr
  have hu64 := hr.units
  have tk : Takes (cxOf (L2.CX P w) P w K mg base ["plan", "rate"] "chance_down" (defScope st_chance_down) (ad 27) cdv A outer s H E) (WE0 E) := takes_of rfl rfl rfl rfl
  have ps : PassesOwn (model P w) (cxOf (L2.CX P w) P w K mg base ["plan", "rate"] "chance_down" (defScope st_chance_down) (ad 27) cdv A outer s H E).A (cxOf (L2.CX P w) P w K mg base ["plan", "rate"] "chance_down" (defScope st_chance_down) (ad 27) cdv A outer s H E).env (cxOf (L2.CX P w) P w K mg base ["plan", "rate"] "chance_down" (defScope st_chance_down) (ad 27) cdv A outer s H E).xe := passes_of rfl
  exact (hCons (hExpr (dCall G_need_plan_at (hr.mono (by omega)) (by rfl) T.m_need_plan_at T.k_need_plan_at T.b_need_plan_at tk (aCons (dVar (pv 0)) (aCons (dVar (pv 1)) aNil)) (lCons_len (lCons_len lNil_len))))
    (hOne (hRet (dCall G_part_up (hr.mono (by omega)) (by rfl) T.m_part_up T.k_part_up T.b_part_up tk (aCons (dVar (pv 0)) (aCons (dVar (pv 1)) (aCons dBl aNil))) (lCons_len (lCons_len (lCons_len lNil_len)))))))
theorem ok_trials_in (T : Txt K mg ad fd) (F : Fun K "trials_in" "trials_in" st_trials_in (ad 28) (fd 28)) (G_chances_of_points : FnOk P w K mg base (L2.CX P w) 4 (ad 22) (fd 22) ["plan", "rate"] (SpD K cl 2 g_chances_of_points)) (G_sum_over : FnOk P w K mg base (L2.CX P w) 4 (ad 24) (fd 24) ["fractions"] (SpD K cl 1 g_sum_over)) : FnOk P w K mg base (L2.CX P w) 5 (ad 28) (fd 28) ["plan", "rate"] (SpD K cl 2 g_trials_in) := show FnOk P w K mg base (L2.CX P w) 5 (ad 28) (fd 28) ["plan", "rate"] (SpD K cl 2 (bodyD F_trials_in 8)) from okD2 (k := 4) (N := ["plan", "rate", "points", "numbers", "many", "ups", "chance", "own"]) (ps := ["plan", "rate"]) F_trials_in F sc_trials_in rfl rfl (by decide) fun cdv A outer s H E hr => by
  have nd := sc_trials_in.nd
  have hu := hu_of hr
  have hu64 := hr.units
  have tk : Takes (cxOf (L2.CX P w) P w K mg base ["plan", "rate", "points", "numbers", "many", "ups", "chance", "own"] "trials_in" (defScope st_trials_in) (ad 28) cdv A outer s H E) (WE0 E) := takes_of rfl rfl rfl rfl
  have ps : PassesOwn (model P w) (cxOf (L2.CX P w) P w K mg base ["plan", "rate", "points", "numbers", "many", "ups", "chance", "own"] "trials_in" (defScope st_trials_in) (ad 28) cdv A outer s H E).A (cxOf (L2.CX P w) P w K mg base ["plan", "rate", "points", "numbers", "many", "ups", "chance", "own"] "trials_in" (defScope st_trials_in) (ad 28) cdv A outer s H E).env (cxOf (L2.CX P w) P w K mg base ["plan", "rate", "points", "numbers", "many", "ups", "chance", "own"] "trials_in" (defScope st_trials_in) (ad 28) cdv A outer s H E).xe := passes_of rfl
  exact (hCons (hAsg (ps_set (i := 2) nd rfl (.inr rfl) (dCall G_chances_of_points (hr.mono (by omega)) (by rfl) T.m_chances_of_points T.k_chances_of_points T.b_chances_of_points tk (aCons (dVar (pv 0)) (aCons (dVar (pv 1)) aNil)) (lCons_len (lCons_len lNil_len)))))
    (hCons (hAsg (ps_set (i := 3) nd rfl (.inl rfl) (dFE (dSortSet rfl (by rfl) T.z_sorted (by decide +kernel) (by rfl) T.z_set (by decide +kernel) (aCons (dFE (dLc (pe_lc (own := [("many", 4), ("ups", 5), ("chance", 6)]) rfl nd (jSeq (dVar (pv 2))) (blkOk_by (N := ["plan", "rate", "points", "numbers", "many", "ups", "chance", "own"]) (sc := defScope st_trials_in) (by decide +kernel)) (fun _ _ _ _ _ => (kT (pg_tup rfl (kC (kN (pg_name (i := 4) nd rfl (.inl rfl))) (kC (kN (pg_name (i := 5) nd rfl (.inl rfl))) (kC (kN (pg_name (i := 6) nd rfl (.inl rfl))) kE (pgs_cons (kN (pg_name (i := 6) nd rfl (.inl rfl))) kE)) (pgs_cons (kN (pg_name (i := 5) nd rfl (.inl rfl))) (kC (kN (pg_name (i := 6) nd rfl (.inl rfl))) kE (pgs_cons (kN (pg_name (i := 6) nd rfl (.inl rfl))) kE)))) (pgs_cons (kN (pg_name (i := 4) nd rfl (.inl rfl))) (kC (kN (pg_name (i := 5) nd rfl (.inl rfl))) (kC (kN (pg_name (i := 6) nd rfl (.inl rfl))) kE (pgs_cons (kN (pg_name (i := 6) nd rfl (.inl rfl))) kE)) (pgs_cons (kN (pg_name (i := 5) nd rfl (.inl rfl))) (kC (kN (pg_name (i := 6) nd rfl (.inl rfl))) kE (pgs_cons (kN (pg_name (i := 6) nd rfl (.inl rfl))) kE))))))) (gs_len (gs_len (gs_len gE_len))))) (fun _ _ _ _ _ => bNilT) (fun _ _ _ _ _ => (dVar (pv 4)))))) aNil)))))
    (hOne (hRet (dCty call_tuple_of c_tuple (by rfl) T.z_tuple (by decide +kernel) (aCons (dFE (dLc (pe_lc (own := [("own", 7)]) rfl nd (jSeq (dVar (pv 3))) (blkOk_by (N := ["plan", "rate", "points", "numbers", "many", "ups", "chance", "own"]) (sc := defScope st_trials_in) (by decide +kernel)) (fun _ _ _ _ _ => (kN (pg_name (i := 7) nd rfl (.inr rfl)))) (fun _ _ _ _ _ => bNilT) (fun _ _ _ _ _ => (dTup (aCons (dVar (pv 7)) (aCons (dCall G_sum_over (hr.mono (by omega)) (by rfl) T.m_sum_over T.k_sum_over T.b_sum_over takes0 (aCons (dFE (dLc (pe_lc (own := [("many", 4), ("ups", 5), ("chance", 6)]) rfl nd (jSeq (dVar (pv 2))) (blkOk_blk (N := ["plan", "rate", "points", "numbers", "many", "ups", "chance", "own"]) (sc := defScope st_trials_in) rfl rfl (by decide +kernel)) (fun _ _ _ _ _ => (kT (pg_tup rfl (kC (kN (pg_name (i := 4) nd rfl (.inl rfl))) (kC (kN (pg_name (i := 5) nd rfl (.inl rfl))) (kC (kN (pg_name (i := 6) nd rfl (.inl rfl))) kE (pgs_cons (kN (pg_name (i := 6) nd rfl (.inl rfl))) kE)) (pgs_cons (kN (pg_name (i := 5) nd rfl (.inl rfl))) (kC (kN (pg_name (i := 6) nd rfl (.inl rfl))) kE (pgs_cons (kN (pg_name (i := 6) nd rfl (.inl rfl))) kE)))) (pgs_cons (kN (pg_name (i := 4) nd rfl (.inl rfl))) (kC (kN (pg_name (i := 5) nd rfl (.inl rfl))) (kC (kN (pg_name (i := 6) nd rfl (.inl rfl))) kE (pgs_cons (kN (pg_name (i := 6) nd rfl (.inl rfl))) kE)) (pgs_cons (kN (pg_name (i := 5) nd rfl (.inl rfl))) (kC (kN (pg_name (i := 6) nd rfl (.inl rfl))) kE (pgs_cons (kN (pg_name (i := 6) nd rfl (.inl rfl))) kE))))))) (gs_len (gs_len (gs_len gE_len))))) (fun _ _ _ _ _ => (pts_one (bCmp (op_eqD hu64) o_eq (dVar (pv 4)) (dVar (pv 7)) (nomark _)))) (fun _ _ _ _ _ => (dVar (pv 6)))))) aNil) (lCons_len lNil_len)) aNil))))))) aNil))))))
theorem ok_trial_chances (T : Txt K mg ad fd) (F : Fun K "trial_chances" "trial_chances" st_trial_chances (ad 29) (fd 29)) (G_need_plan_at : FnOk P w K mg base (L2.CX P w) 6 (ad 16) (fd 16) ["plan", "rate"] (SpD K cl 2 g_need_plan_at)) (G_trials_in : FnOk P w K mg base (L2.CX P w) 5 (ad 28) (fd 28) ["plan", "rate"] (SpD K cl 2 g_trials_in)) : FnOk P w K mg base (L2.CX P w) 7 (ad 29) (fd 29) ["plan", "rate"] (SpD K cl 2 g_trial_chances) := show FnOk P w K mg base (L2.CX P w) 7 (ad 29) (fd 29) ["plan", "rate"] (SpD K cl 2 (bodyD F_trial_chances 2)) from okD2 (k := 6) (N := ["plan", "rate"]) (ps := ["plan", "rate"]) F_trial_chances F sc_trial_chances rfl rfl (by decide) fun cdv A outer s H E hr => by
  have nd := sc_trial_chances.nd
  have hu := hu_of hr
  have hu64 := hr.units
  have tk : Takes (cxOf (L2.CX P w) P w K mg base ["plan", "rate"] "trial_chances" (defScope st_trial_chances) (ad 29) cdv A outer s H E) (WE0 E) := takes_of rfl rfl rfl rfl
  have ps : PassesOwn (model P w) (cxOf (L2.CX P w) P w K mg base ["plan", "rate"] "trial_chances" (defScope st_trial_chances) (ad 29) cdv A outer s H E).A (cxOf (L2.CX P w) P w K mg base ["plan", "rate"] "trial_chances" (defScope st_trial_chances) (ad 29) cdv A outer s H E).env (cxOf (L2.CX P w) P w K mg base ["plan", "rate"] "trial_chances" (defScope st_trial_chances) (ad 29) cdv A outer s H E).xe := passes_of rfl
  exact (hCons (hExpr (dCall G_need_plan_at (hr.mono (by omega)) (by rfl) T.m_need_plan_at T.k_need_plan_at T.b_need_plan_at tk (aCons (dVar (pv 0)) (aCons (dVar (pv 1)) aNil)) (lCons_len (lCons_len lNil_len))))
    (hOne (hRet (dCall G_trials_in (hr.mono (by omega)) (by rfl) T.m_trials_in T.k_trials_in T.b_trials_in tk (aCons (dVar (pv 0)) (aCons (dVar (pv 1)) aNil)) (lCons_len (lCons_len lNil_len))))))
theorem ok_mean_in (T : Txt K mg ad fd) (F : Fun K "mean_in" "mean_in" st_mean_in (ad 30) (fd 30)) (G_lowest : FnOk P w K mg base (L2.CX P w) 2 (ad 17) (fd 17) ["above", "below"] (SpD K cl 2 g_lowest)) (G_sum_over : FnOk P w K mg base (L2.CX P w) 4 (ad 24) (fd 24) ["fractions"] (SpD K cl 1 g_sum_over)) : FnOk P w K mg base (L2.CX P w) 5 (ad 30) (fd 30) ["chances"] (SpD K cl 1 g_mean_in) := show FnOk P w K mg base (L2.CX P w) 5 (ad 30) (fd 30) ["chances"] (SpD K cl 1 (bodyD F_mean_in 3)) from okD2 (k := 4) (N := ["chances", "value", "chance"]) (ps := ["chances"]) F_mean_in F sc_mean_in rfl rfl (by decide) fun cdv A outer s H E hr => by
  have nd := sc_mean_in.nd
  have hu := hu_of hr
  have hu64 := hr.units
  have tk : Takes (cxOf (L2.CX P w) P w K mg base ["chances", "value", "chance"] "mean_in" (defScope st_mean_in) (ad 30) cdv A outer s H E) (WE0 E) := takes_of rfl rfl rfl rfl
  have ps : PassesOwn (model P w) (cxOf (L2.CX P w) P w K mg base ["chances", "value", "chance"] "mean_in" (defScope st_mean_in) (ad 30) cdv A outer s H E).A (cxOf (L2.CX P w) P w K mg base ["chances", "value", "chance"] "mean_in" (defScope st_mean_in) (ad 30) cdv A outer s H E).env (cxOf (L2.CX P w) P w K mg base ["chances", "value", "chance"] "mean_in" (defScope st_mean_in) (ad 30) cdv A outer s H E).xe := passes_of rfl
  exact (hOne (hRet (dCall G_sum_over (hr.mono (by omega)) (by rfl) T.m_sum_over T.k_sum_over T.b_sum_over tk (aCons (dFE (dLc (pe_lc (own := [("value", 1), ("chance", 2)]) rfl nd (jSeq (dVar (pv 0))) (blkOk_by (N := ["chances", "value", "chance"]) (sc := defScope st_mean_in) (by decide +kernel)) (fun _ _ _ _ _ => (kT (pg_tup rfl (kC (kN (pg_name (i := 1) nd rfl (.inl rfl))) (kC (kN (pg_name (i := 2) nd rfl (.inl rfl))) kE (pgs_cons (kN (pg_name (i := 2) nd rfl (.inl rfl))) kE)) (pgs_cons (kN (pg_name (i := 1) nd rfl (.inl rfl))) (kC (kN (pg_name (i := 2) nd rfl (.inl rfl))) kE (pgs_cons (kN (pg_name (i := 2) nd rfl (.inl rfl))) kE))))) (gs_len (gs_len gE_len)))) (fun _ _ _ _ _ => bNilT) (fun _ _ _ _ _ => (dCall G_lowest (hr.mono (by omega)) (by rfl) T.m_lowest T.k_lowest T.b_lowest takes0 (aCons (dBin op_mulD o_mul (dVar (pv 1)) (dIx (dVar (pv 2)) dInt (fun _ _ => rfl))) (aCons (dIx (dVar (pv 2)) dInt (fun _ _ => rfl)) aNil)) (lCons_len (lCons_len lNil_len))))))) aNil) (lCons_len lNil_len))))
theorem ok_mean_trials (T : Txt K mg ad fd) (F : Fun K "mean_trials" "mean_trials" st_mean_trials (ad 31) (fd 31)) (G_need_plan_at : FnOk P w K mg base (L2.CX P w) 6 (ad 16) (fd 16) ["plan", "rate"] (SpD K cl 2 g_need_plan_at)) (G_trials_in : FnOk P w K mg base (L2.CX P w) 5 (ad 28) (fd 28) ["plan", "rate"] (SpD K cl 2 g_trials_in)) (G_mean_in : FnOk P w K mg base (L2.CX P w) 5 (ad 30) (fd 30) ["chances"] (SpD K cl 1 g_mean_in)) : FnOk P w K mg base (L2.CX P w) 7 (ad 31) (fd 31) ["plan", "rate"] (SpD K cl 2 g_mean_trials) := show FnOk P w K mg base (L2.CX P w) 7 (ad 31) (fd 31) ["plan", "rate"] (SpD K cl 2 (bodyD F_mean_trials 2)) from okD2 (k := 6) (N := ["plan", "rate"]) (ps := ["plan", "rate"]) F_mean_trials F sc_mean_trials rfl rfl (by decide) fun cdv A outer s H E hr => by
  have nd := sc_mean_trials.nd
  have hu := hu_of hr
  have hu64 := hr.units
  have tk : Takes (cxOf (L2.CX P w) P w K mg base ["plan", "rate"] "mean_trials" (defScope st_mean_trials) (ad 31) cdv A outer s H E) (WE0 E) := takes_of rfl rfl rfl rfl
  have ps : PassesOwn (model P w) (cxOf (L2.CX P w) P w K mg base ["plan", "rate"] "mean_trials" (defScope st_mean_trials) (ad 31) cdv A outer s H E).A (cxOf (L2.CX P w) P w K mg base ["plan", "rate"] "mean_trials" (defScope st_mean_trials) (ad 31) cdv A outer s H E).env (cxOf (L2.CX P w) P w K mg base ["plan", "rate"] "mean_trials" (defScope st_mean_trials) (ad 31) cdv A outer s H E).xe := passes_of rfl
  exact (hCons (hExpr (dCall G_need_plan_at (hr.mono (by omega)) (by rfl) T.m_need_plan_at T.k_need_plan_at T.b_need_plan_at tk (aCons (dVar (pv 0)) (aCons (dVar (pv 1)) aNil)) (lCons_len (lCons_len lNil_len))))
    (hOne (hRet (dCall G_mean_in (hr.mono (by omega)) (by rfl) T.m_mean_in T.k_mean_in T.b_mean_in tk (aCons (dCall G_trials_in (hr.mono (by omega)) (by rfl) T.m_trials_in T.k_trials_in T.b_trials_in tk (aCons (dVar (pv 0)) (aCons (dVar (pv 1)) aNil)) (lCons_len (lCons_len lNil_len))) aNil) (lCons_len lNil_len)))))
theorem ok__law_roll (T : Txt K mg ad fd) (F : Fun K "_law_roll" "_law_roll" st__law_roll (ad 32) (fd 32)) : FnOk P w K mg base (L2.CX P w) 1 (ad 32) (fd 32) ["cup", "many"] (SpD K cl 2 g__law_roll) := show FnOk P w K mg base (L2.CX P w) 1 (ad 32) (fd 32) ["cup", "many"] (SpD K cl 2 (bodyD F__law_roll 4)) from okD2 (k := 0) (N := ["cup", "many", "found", "deep"]) (ps := ["cup", "many"]) F__law_roll F sc__law_roll rfl rfl (by decide) fun cdv A outer s H E hr => by
  have nd := sc__law_roll.nd
  have hu := hu_of hr
  have hu64 := hr.units
  have tk : Takes (cxOf (L2.CX P w) P w K mg base ["cup", "many", "found", "deep"] "_law_roll" (defScope st__law_roll) (ad 32) cdv A outer s H E) (WE0 E) := takes_of rfl rfl rfl rfl
  have ps : PassesOwn (model P w) (cxOf (L2.CX P w) P w K mg base ["cup", "many", "found", "deep"] "_law_roll" (defScope st__law_roll) (ad 32) cdv A outer s H E).A (cxOf (L2.CX P w) P w K mg base ["cup", "many", "found", "deep"] "_law_roll" (defScope st__law_roll) (ad 32) cdv A outer s H E).env (cxOf (L2.CX P w) P w K mg base ["cup", "many", "found", "deep"] "_law_roll" (defScope st__law_roll) (ad 32) cdv A outer s H E).xe := passes_of rfl
  exact (hCons (hIf (bCmp op_gt o_cmpI (dIx (dVar (pv 0)) dInt (fun _ _ => rfl)) dInt (nomark _)) (hCons (hAsg (ps_set (i := 2) nd rfl (.inl rfl) (dBin op_mod o_mod (dCty call_int1 c_int (by rfl) T.z_int (by decide +kernel) (aCons (dIx (dVar (pv 0)) dInt (fun _ _ => rfl)) aNil)) (dVar (pv 1)))))
    (hCons (hSetI (ps_asg (dBin op_divD o_div (dIx (dVar (pv 0)) dInt (fun _ _ => rfl)) (dVar (pv 1))) (pg_sub (pv 0) dInt set_list)))
    (hOne (hRet (dVar (pv 2)))))) hNil)
    (hCons (hSetI (ps_asg (dBin op_mod o_mod (dCty call_int1 c_int (by rfl) T.z_int (by decide +kernel) (aCons (dBin op_addD o_add (dBin op_mulD o_mul (dIx (dVar (pv 0)) dInt (fun _ _ => rfl)) dInt) dInt) aNil)) dInt) (pg_sub (pv 0) dInt set_list)))
    (hCons (hAsg (ps_set (i := 3) nd rfl (.inl rfl) (dBin op_mod o_mod (dCty call_int1 c_int (by rfl) T.z_int (by decide +kernel) (aCons (dBin op_mulD o_mul (dIx (dVar (pv 0)) dInt (fun _ _ => rfl)) (dBin op_addD o_add (dIx (dVar (pv 0)) dInt (fun _ _ => rfl)) dInt)) aNil)) dInt)))
    (hOne (hRet (dBin op_mod o_mod (dCty call_int1 c_int (by rfl) T.z_int (by decide +kernel) (aCons (dBin op_divD o_div (dVar (pv 3)) dInt) aNil)) (dVar (pv 1))))))))
theorem ok__law_rate (T : Txt K mg ad fd) (F : Fun K "_law_rate" "_law_rate" st__law_rate (ad 33) (fd 33)) (G__law_roll : FnOk P w K mg base (L2.CX P w) 1 (ad 32) (fd 32) ["cup", "many"] (SpD K cl 2 g__law_roll)) (G__law_least : FnOk P w K mg base (L2.CX P w) 2 (ad 2) (fd 2) ["above", "below"] (SpD K cl 2 g__law_least)) : FnOk P w K mg base (L2.CX P w) 3 (ad 33) (fd 33) ["cup"] (SpD K cl 1 g__law_rate) := show FnOk P w K mg base (L2.CX P w) 3 (ad 33) (fd 33) ["cup"] (SpD K cl 1 (bodyD F__law_rate 2)) from okD2 (k := 2) (N := ["cup", "below"]) (ps := ["cup"]) F__law_rate F sc__law_rate rfl rfl (by decide) fun cdv A outer s H E hr => by
  have nd := sc__law_rate.nd
  have hu := hu_of hr
  have hu64 := hr.units
  have tk : Takes (cxOf (L2.CX P w) P w K mg base ["cup", "below"] "_law_rate" (defScope st__law_rate) (ad 33) cdv A outer s H E) (WE0 E) := takes_of rfl rfl rfl rfl
  have ps : PassesOwn (model P w) (cxOf (L2.CX P w) P w K mg base ["cup", "below"] "_law_rate" (defScope st__law_rate) (ad 33) cdv A outer s H E).A (cxOf (L2.CX P w) P w K mg base ["cup", "below"] "_law_rate" (defScope st__law_rate) (ad 33) cdv A outer s H E).env (cxOf (L2.CX P w) P w K mg base ["cup", "below"] "_law_rate" (defScope st__law_rate) (ad 33) cdv A outer s H E).xe := passes_of rfl
  exact (hCons (hAsg (ps_set (i := 1) nd rfl (.inl rfl) (dBin op_addD o_add dInt (dCall G__law_roll (hr.mono (by omega)) (by rfl) T.m__law_roll T.k__law_roll T.b__law_roll tk (aCons (dVar (pv 0)) (aCons dInt aNil)) (lCons_len (lCons_len lNil_len))))))
    (hOne (hRet (dCall G__law_least (hr.mono (by omega)) (by rfl) T.m__law_least T.k__law_least T.b__law_least tk (aCons (dBin op_addD o_add dInt (dCall G__law_roll (hr.mono (by omega)) (by rfl) T.m__law_roll T.k__law_roll T.b__law_roll tk (aCons (dVar (pv 0)) (aCons (dBin op_sub o_sub (dVar (pv 1)) dInt) aNil)) (lCons_len (lCons_len lNil_len)))) (aCons (dVar (pv 1)) aNil)) (lCons_len (lCons_len lNil_len))))))
theorem ok__law_power (T : Txt K mg ad fd) (F : Fun K "_law_power" "_law_power" st__law_power (ad 34) (fd 34)) : FnOk P w K mg base (L2.CX P w) 1 (ad 34) (fd 34) ["number", "times"] (SpD K cl 2 g__law_power) := show FnOk P w K mg base (L2.CX P w) 1 (ad 34) (fd 34) ["number", "times"] (SpD K cl 2 (bodyD F__law_power 4)) from okD2 (k := 0) (N := ["number", "times", "found", "turn"]) (ps := ["number", "times"]) F__law_power F sc__law_power rfl rfl (by decide) fun cdv A outer s H E hr => by
  have nd := sc__law_power.nd
  have hu := hu_of hr
  have hu64 := hr.units
  have tk : Takes (cxOf (L2.CX P w) P w K mg base ["number", "times", "found", "turn"] "_law_power" (defScope st__law_power) (ad 34) cdv A outer s H E) (WE0 E) := takes_of rfl rfl rfl rfl
  have ps : PassesOwn (model P w) (cxOf (L2.CX P w) P w K mg base ["number", "times", "found", "turn"] "_law_power" (defScope st__law_power) (ad 34) cdv A outer s H E).A (cxOf (L2.CX P w) P w K mg base ["number", "times", "found", "turn"] "_law_power" (defScope st__law_power) (ad 34) cdv A outer s H E).env (cxOf (L2.CX P w) P w K mg base ["number", "times", "found", "turn"] "_law_power" (defScope st__law_power) (ad 34) cdv A outer s H E).xe := passes_of rfl
  exact (hCons (hAsg (ps_set (i := 2) nd rfl (.inl rfl) dInt))
    (hCons (hFor (ps_for ps rfl (jRg1 (by rfl) T.z_range (aCons (dVar (pv 1)) aNil)) (kN (pg_name (i := 3) nd rfl (.inl rfl))) (hOne (hAsg (ps_set (i := 2) nd rfl (.inl rfl) (dBin op_mulD o_mul (dVar (pv 2)) (dVar (pv 0))))))))
    (hOne (hRet (dVar (pv 2))))))
theorem ok__law_plus (T : Txt K mg ad fd) (F : Fun K "_law_plus" "_law_plus" st__law_plus (ad 35) (fd 35)) (G__law_least : FnOk P w K mg base (L2.CX P w) 2 (ad 2) (fd 2) ["above", "below"] (SpD K cl 2 g__law_least)) : FnOk P w K mg base (L2.CX P w) 3 (ad 35) (fd 35) ["one", "other"] (SpD K cl 2 g__law_plus) := show FnOk P w K mg base (L2.CX P w) 3 (ad 35) (fd 35) ["one", "other"] (SpD K cl 2 (bodyD F__law_plus 2)) from okD2 (k := 2) (N := ["one", "other"]) (ps := ["one", "other"]) F__law_plus F sc__law_plus rfl rfl (by decide) fun cdv A outer s H E hr => by
  have nd := sc__law_plus.nd
  have hu := hu_of hr
  have hu64 := hr.units
  have tk : Takes (cxOf (L2.CX P w) P w K mg base ["one", "other"] "_law_plus" (defScope st__law_plus) (ad 35) cdv A outer s H E) (WE0 E) := takes_of rfl rfl rfl rfl
  have ps : PassesOwn (model P w) (cxOf (L2.CX P w) P w K mg base ["one", "other"] "_law_plus" (defScope st__law_plus) (ad 35) cdv A outer s H E).A (cxOf (L2.CX P w) P w K mg base ["one", "other"] "_law_plus" (defScope st__law_plus) (ad 35) cdv A outer s H E).env (cxOf (L2.CX P w) P w K mg base ["one", "other"] "_law_plus" (defScope st__law_plus) (ad 35) cdv A outer s H E).xe := passes_of rfl
  exact (hOne (hRet (dCall G__law_least (hr.mono (by omega)) (by rfl) T.m__law_least T.k__law_least T.b__law_least tk (aCons (dBin op_addD o_add (dBin op_mulD o_mul (dIx (dVar (pv 0)) dInt (fun _ _ => rfl)) (dIx (dVar (pv 1)) dInt (fun _ _ => rfl))) (dBin op_mulD o_mul (dIx (dVar (pv 1)) dInt (fun _ _ => rfl)) (dIx (dVar (pv 0)) dInt (fun _ _ => rfl)))) (aCons (dBin op_mulD o_mul (dIx (dVar (pv 0)) dInt (fun _ _ => rfl)) (dIx (dVar (pv 1)) dInt (fun _ _ => rfl))) aNil)) (lCons_len (lCons_len lNil_len)))))
theorem ok_ways_at (T : Txt K mg ad fd) (F : Fun K "ways_at" "ways_at" st_ways_at (ad 36) (fd 36)) (G_points_in_plan : FnOk P w K mg base (L2.CX P w) 2 (ad 21) (fd 21) ["plan"] (SpD K cl 1 g_points_in_plan)) : FnOk P w K mg base (L2.CX P w) 3 (ad 36) (fd 36) ["plan", "many", "ups"] (SpD K cl 3 g_ways_at) := show FnOk P w K mg base (L2.CX P w) 3 (ad 36) (fd 36) ["plan", "many", "ups"] (SpD K cl 3 (bodyD F_ways_at 6)) from okD2 (k := 2) (N := ["plan", "many", "ups", "trials", "own", "ways"]) (ps := ["plan", "many", "ups"]) F_ways_at F sc_ways_at rfl rfl (by decide) fun cdv A outer s H E hr => by
  have nd := sc_ways_at.nd
  have hu := hu_of hr
  have hu64 := hr.units
  have tk : Takes (cxOf (L2.CX P w) P w K mg base ["plan", "many", "ups", "trials", "own", "ways"] "ways_at" (defScope st_ways_at) (ad 36) cdv A outer s H E) (WE0 E) := takes_of rfl rfl rfl rfl
  have ps : PassesOwn (model P w) (cxOf (L2.CX P w) P w K mg base ["plan", "many", "ups", "trials", "own", "ways"] "ways_at" (defScope st_ways_at) (ad 36) cdv A outer s H E).A (cxOf (L2.CX P w) P w K mg base ["plan", "many", "ups", "trials", "own", "ways"] "ways_at" (defScope st_ways_at) (ad 36) cdv A outer s H E).env (cxOf (L2.CX P w) P w K mg base ["plan", "many", "ups", "trials", "own", "ways"] "ways_at" (defScope st_ways_at) (ad 36) cdv A outer s H E).xe := passes_of rfl
  exact (hOne (hRet (dCb (call_sumA rfl) c_sumA (by rfl) T.z_sum (by decide +kernel) (aCons (dFE (dLc (pe_lc (own := [("trials", 3), ("own", 4), ("ways", 5)]) rfl nd (jSeq (dCall G_points_in_plan (hr.mono (by omega)) (by rfl) T.m_points_in_plan T.k_points_in_plan T.b_points_in_plan tk (aCons (dVar (pv 0)) aNil) (lCons_len lNil_len))) (blkOk_by (N := ["plan", "many", "ups", "trials", "own", "ways"]) (sc := defScope st_ways_at) (by decide +kernel)) (fun _ _ _ _ _ => (kT (pg_tup rfl (kC (kN (pg_name (i := 3) nd rfl (.inl rfl))) (kC (kN (pg_name (i := 4) nd rfl (.inl rfl))) (kC (kN (pg_name (i := 5) nd rfl (.inl rfl))) kE (pgs_cons (kN (pg_name (i := 5) nd rfl (.inl rfl))) kE)) (pgs_cons (kN (pg_name (i := 4) nd rfl (.inl rfl))) (kC (kN (pg_name (i := 5) nd rfl (.inl rfl))) kE (pgs_cons (kN (pg_name (i := 5) nd rfl (.inl rfl))) kE)))) (pgs_cons (kN (pg_name (i := 3) nd rfl (.inl rfl))) (kC (kN (pg_name (i := 4) nd rfl (.inl rfl))) (kC (kN (pg_name (i := 5) nd rfl (.inl rfl))) kE (pgs_cons (kN (pg_name (i := 5) nd rfl (.inl rfl))) kE)) (pgs_cons (kN (pg_name (i := 4) nd rfl (.inl rfl))) (kC (kN (pg_name (i := 5) nd rfl (.inl rfl))) kE (pgs_cons (kN (pg_name (i := 5) nd rfl (.inl rfl))) kE))))))) (gs_len (gs_len (gs_len gE_len))))) (fun _ _ _ _ _ => (pts_one (bCmp (op_eqD hu64) o_eq (dTup (aCons (dVar (pv 3)) (aCons (dVar (pv 4)) aNil))) (dTup (aCons (dVar (pv 1)) (aCons (dVar (pv 2)) aNil))) (nomark _)))) (fun _ _ _ _ _ => (dVar (pv 5)))))) aNil))))
theorem ok_need_end_point (T : Txt K mg ad fd) (F : Fun K "need_end_point" "need_end_point" st_need_end_point (ad 37) (fd 37)) (G_is_whole : FnOk P w K mg base (L2.CX P w) 2 (ad 8) (fd 8) ["value", "low", "high"] (SpD K cl 3 g_is_whole)) (G_ways_at : FnOk P w K mg base (L2.CX P w) 3 (ad 36) (fd 36) ["plan", "many", "ups"] (SpD K cl 3 g_ways_at)) : FnOk P w K mg base (L2.CX P w) 4 (ad 37) (fd 37) ["plan", "many", "ups"] (SpD K cl 3 g_need_end_point) := show FnOk P w K mg base (L2.CX P w) 4 (ad 37) (fd 37) ["plan", "many", "ups"] (SpD K cl 3 (bodyD F_need_end_point 3)) from okD2 (k := 3) (N := ["plan", "many", "ups"]) (ps := ["plan", "many", "ups"]) F_need_end_point F sc_need_end_point rfl rfl (by decide) fun cdv A outer s H E hr => by
  have nd := sc_need_end_point.nd
  have hu := hu_of hr
  have hu64 := hr.units
  have tk : Takes (cxOf (L2.CX P w) P w K mg base ["plan", "many", "ups"] "need_end_point" (defScope st_need_end_point) (ad 37) cdv A outer s H E) (WE0 E) := takes_of rfl rfl rfl rfl
  have ps : PassesOwn (model P w) (cxOf (L2.CX P w) P w K mg base ["plan", "many", "ups"] "need_end_point" (defScope st_need_end_point) (ad 37) cdv A outer s H E).A (cxOf (L2.CX P w) P w K mg base ["plan", "many", "ups"] "need_end_point" (defScope st_need_end_point) (ad 37) cdv A outer s H E).env (cxOf (L2.CX P w) P w K mg base ["plan", "many", "ups"] "need_end_point" (defScope st_need_end_point) (ad 37) cdv A outer s H E).xe := passes_of rfl
  exact (hCons (hIf (bNotE (bValE (dCall G_is_whole (hr.mono (by omega)) (by rfl) T.m_is_whole T.k_is_whole T.b_is_whole tk (aCons (dVar (pv 1)) (aCons dInt (aCons (dCb call_len c_len (by rfl) T.z_len (by decide +kernel) (aCons (dVar (pv 0)) aNil)) aNil))) (lCons_len (lCons_len (lCons_len lNil_len)))))) (hOne hFail) hNil)
    (hOne (hIf (bPW (wOr (bNotE (bValE (dCall G_is_whole (hr.mono (by omega)) (by rfl) T.m_is_whole T.k_is_whole T.b_is_whole tk (aCons (dVar (pv 2)) (aCons dInt (aCons (dVar (pv 1)) aNil))) (lCons_len (lCons_len (lCons_len lNil_len)))))) (wOr1 (bCmp (op_eqD hu64) o_eq (dCall G_ways_at (hr.mono (by omega)) (by rfl) T.m_ways_at T.k_ways_at T.b_ways_at tk (aCons (dVar (pv 0)) (aCons (dVar (pv 1)) (aCons (dVar (pv 2)) aNil))) (lCons_len (lCons_len (lCons_len lNil_len)))) dInt (nomark _))))) (hOne hFail) hNil)))
theorem ok_end_chance (T : Txt K mg ad fd) (F : Fun K "end_chance" "end_chance" st_end_chance (ad 38) (fd 38)) (G_need_plan_at : FnOk P w K mg base (L2.CX P w) 6 (ad 16) (fd 16) ["plan", "rate"] (SpD K cl 2 g_need_plan_at)) (G_need_end_point : FnOk P w K mg base (L2.CX P w) 4 (ad 37) (fd 37) ["plan", "many", "ups"] (SpD K cl 3 g_need_end_point)) (G_ways_at : FnOk P w K mg base (L2.CX P w) 3 (ad 36) (fd 36) ["plan", "many", "ups"] (SpD K cl 3 g_ways_at)) (G_point_chance : FnOk P w K mg base (L2.CX P w) 3 (ad 19) (fd 19) ["rate", "many", "ups", "ways"] (SpD K cl 4 g_point_chance)) : FnOk P w K mg base (L2.CX P w) 7 (ad 38) (fd 38) ["plan", "rate", "many", "ups"] (SpD K cl 4 g_end_chance) := show FnOk P w K mg base (L2.CX P w) 7 (ad 38) (fd 38) ["plan", "rate", "many", "ups"] (SpD K cl 4 (bodyD F_end_chance 4)) from okD2 (k := 6) (N := ["plan", "rate", "many", "ups"]) (ps := ["plan", "rate", "many", "ups"]) F_end_chance F sc_end_chance rfl rfl (by decide) fun cdv A outer s H E hr => by
  have nd := sc_end_chance.nd
  have hu := hu_of hr
  have hu64 := hr.units
  have tk : Takes (cxOf (L2.CX P w) P w K mg base ["plan", "rate", "many", "ups"] "end_chance" (defScope st_end_chance) (ad 38) cdv A outer s H E) (WE0 E) := takes_of rfl rfl rfl rfl
  have ps : PassesOwn (model P w) (cxOf (L2.CX P w) P w K mg base ["plan", "rate", "many", "ups"] "end_chance" (defScope st_end_chance) (ad 38) cdv A outer s H E).A (cxOf (L2.CX P w) P w K mg base ["plan", "rate", "many", "ups"] "end_chance" (defScope st_end_chance) (ad 38) cdv A outer s H E).env (cxOf (L2.CX P w) P w K mg base ["plan", "rate", "many", "ups"] "end_chance" (defScope st_end_chance) (ad 38) cdv A outer s H E).xe := passes_of rfl
  exact (hCons (hExpr (dCall G_need_plan_at (hr.mono (by omega)) (by rfl) T.m_need_plan_at T.k_need_plan_at T.b_need_plan_at tk (aCons (dVar (pv 0)) (aCons (dVar (pv 1)) aNil)) (lCons_len (lCons_len lNil_len))))
    (hCons (hExpr (dCall G_need_end_point (hr.mono (by omega)) (by rfl) T.m_need_end_point T.k_need_end_point T.b_need_end_point tk (aCons (dVar (pv 0)) (aCons (dVar (pv 2)) (aCons (dVar (pv 3)) aNil))) (lCons_len (lCons_len (lCons_len lNil_len)))))
    (hOne (hRet (dCall G_point_chance (hr.mono (by omega)) (by rfl) T.m_point_chance T.k_point_chance T.b_point_chance tk (aCons (dVar (pv 1)) (aCons (dVar (pv 2)) (aCons (dVar (pv 3)) (aCons (dCall G_ways_at (hr.mono (by omega)) (by rfl) T.m_ways_at T.k_ways_at T.b_ways_at tk (aCons (dVar (pv 0)) (aCons (dVar (pv 2)) (aCons (dVar (pv 3)) aNil))) (lCons_len (lCons_len (lCons_len lNil_len)))) aNil)))) (lCons_len (lCons_len (lCons_len (lCons_len lNil_len)))))))))
theorem ok_product_in (T : Txt K mg ad fd) (F : Fun K "product_in" "product_in" st_product_in (ad 39) (fd 39)) (G_lowest : FnOk P w K mg base (L2.CX P w) 2 (ad 17) (fd 17) ["above", "below"] (SpD K cl 2 g_lowest)) : FnOk P w K mg base (L2.CX P w) 3 (ad 39) (fd 39) ["one", "other"] (SpD K cl 2 g_product_in) := show FnOk P w K mg base (L2.CX P w) 3 (ad 39) (fd 39) ["one", "other"] (SpD K cl 2 (bodyD F_product_in 2)) from okD2 (k := 2) (N := ["one", "other"]) (ps := ["one", "other"]) F_product_in F sc_product_in rfl rfl (by decide) fun cdv A outer s H E hr => by
  have nd := sc_product_in.nd
  have hu := hu_of hr
  have hu64 := hr.units
  have tk : Takes (cxOf (L2.CX P w) P w K mg base ["one", "other"] "product_in" (defScope st_product_in) (ad 39) cdv A outer s H E) (WE0 E) := takes_of rfl rfl rfl rfl
  have ps : PassesOwn (model P w) (cxOf (L2.CX P w) P w K mg base ["one", "other"] "product_in" (defScope st_product_in) (ad 39) cdv A outer s H E).A (cxOf (L2.CX P w) P w K mg base ["one", "other"] "product_in" (defScope st_product_in) (ad 39) cdv A outer s H E).env (cxOf (L2.CX P w) P w K mg base ["one", "other"] "product_in" (defScope st_product_in) (ad 39) cdv A outer s H E).xe := passes_of rfl
  exact (hOne (hRet (dCall G_lowest (hr.mono (by omega)) (by rfl) T.m_lowest T.k_lowest T.b_lowest tk (aCons (dBin op_mulD o_mul (dIx (dVar (pv 0)) dInt (fun _ _ => rfl)) (dIx (dVar (pv 1)) dInt (fun _ _ => rfl))) (aCons (dBin op_mulD o_mul (dIx (dVar (pv 0)) dInt (fun _ _ => rfl)) (dIx (dVar (pv 1)) dInt (fun _ _ => rfl))) aNil)) (lCons_len (lCons_len lNil_len)))))
theorem ok_share_begun (T : Txt K mg ad fd) (F : Fun K "share_begun" "share_begun" st_share_begun (ad 40) (fd 40)) (G_ways_at : FnOk P w K mg base (L2.CX P w) 3 (ad 36) (fd 36) ["plan", "many", "ups"] (SpD K cl 3 g_ways_at)) (G_lowest : FnOk P w K mg base (L2.CX P w) 2 (ad 17) (fd 17) ["above", "below"] (SpD K cl 2 g_lowest)) : FnOk P w K mg base (L2.CX P w) 4 (ad 40) (fd 40) ["plan", "many", "ups"] (SpD K cl 3 g_share_begun) := show FnOk P w K mg base (L2.CX P w) 4 (ad 40) (fd 40) ["plan", "many", "ups"] (SpD K cl 3 (bodyD F_share_begun 12)) from okD2 (k := 3) (N := ["plan", "many", "ups", "found", "ahead", "at", "low", "high", "one", "other", "own", "ways"]) (ps := ["plan", "many", "ups"]) F_share_begun F sc_share_begun rfl rfl (by decide) fun cdv A outer s H E hr => by
  have nd := sc_share_begun.nd
  have hu := hu_of hr
  have hu64 := hr.units
  have tk : Takes (cxOf (L2.CX P w) P w K mg base ["plan", "many", "ups", "found", "ahead", "at", "low", "high", "one", "other", "own", "ways"] "share_begun" (defScope st_share_begun) (ad 40) cdv A outer s H E) (WE0 E) := takes_of rfl rfl rfl rfl
  have ps : PassesOwn (model P w) (cxOf (L2.CX P w) P w K mg base ["plan", "many", "ups", "found", "ahead", "at", "low", "high", "one", "other", "own", "ways"] "share_begun" (defScope st_share_begun) (ad 40) cdv A outer s H E).A (cxOf (L2.CX P w) P w K mg base ["plan", "many", "ups", "found", "ahead", "at", "low", "high", "one", "other", "own", "ways"] "share_begun" (defScope st_share_begun) (ad 40) cdv A outer s H E).env (cxOf (L2.CX P w) P w K mg base ["plan", "many", "ups", "found", "ahead", "at", "low", "high", "one", "other", "own", "ways"] "share_begun" (defScope st_share_begun) (ad 40) cdv A outer s H E).xe := passes_of rfl
  exact (hCons (hPar2 (ps_par (i := 3) (j := 4) rfl nd rfl rfl (by decide) rfl rfl (jVal dInt (jVal (dFE (dLst (aCons dInt (aCons dInt aNil)))) jNil)) (by rfl)))
    (hCons (hFor (ps_for ps rfl (jRg1 (by rfl) T.z_range (aCons (dVar (pv 1)) aNil)) (kN (pg_name (i := 5) nd rfl (.inl rfl))) (hCons (hAsgG (ps_asg (dIx (dVar (pv 0)) (dVar (pv 5)) (fun _ _ => rfl)) (kT (pg_tup rfl (kC (kN (pg_name (i := 6) nd rfl (.inr rfl))) (kC (kN (pg_name (i := 7) nd rfl (.inr rfl))) kE (pgs_cons (kN (pg_name (i := 7) nd rfl (.inr rfl))) kE)) (pgs_cons (kN (pg_name (i := 6) nd rfl (.inr rfl))) (kC (kN (pg_name (i := 7) nd rfl (.inr rfl))) kE (pgs_cons (kN (pg_name (i := 7) nd rfl (.inr rfl))) kE))))) (gs_len (gs_len gE_len)))))
    (hCons (hIf (bCmp op_gt o_cmpI (dVar (pv 5)) dInt (nomark _)) (hOne (hAsgLcV (ps_setLc (own := [("one", 8), ("other", 9)]) (i := 4) rfl nd rfl rfl (sw_true rfl rfl rfl rfl) (jZipA (RZ.pi_zipA (by rfl) T.z_zip (aCons (dBin op_addD o_add (dVar (pv 4)) (dFE (dLst (aCons dInt aNil)))) (aCons (dBin op_addD o_add (dFE (dLst (aCons dInt aNil))) (dVar (pv 4))) aNil)))) (blkOk_by (N := ["plan", "many", "ups", "found", "ahead", "at", "low", "high", "one", "other", "own", "ways"]) (sc := defScope st_share_begun) (by decide +kernel)) (fun _ _ _ _ _ => (kT (pg_tup rfl (kC (kN (pg_name (i := 8) nd rfl (.inl rfl))) (kC (kN (pg_name (i := 9) nd rfl (.inl rfl))) kE (pgs_cons (kN (pg_name (i := 9) nd rfl (.inl rfl))) kE)) (pgs_cons (kN (pg_name (i := 8) nd rfl (.inl rfl))) (kC (kN (pg_name (i := 9) nd rfl (.inl rfl))) kE (pgs_cons (kN (pg_name (i := 9) nd rfl (.inl rfl))) kE))))) (gs_len (gs_len gE_len)))) (fun _ _ _ _ _ => bNilT) (fun _ _ _ _ _ => (dBin op_addD o_add (dVar (pv 8)) (dVar (pv 9))))))) hNil)
    (hCons (hIf (bCmp (op_eqD hu64) o_eq (dVar (pv 5)) (dBin op_sub o_sub (dVar (pv 1)) dInt) (nomark _)) (hOne (hAsg (ps_set (i := 3) nd rfl (.inl rfl) (dIx (dVar (pv 4)) (dVar (pv 2)) (fun _ _ => rfl))))) hNil)
    (hOne (hAsgLcV (ps_setLc (own := [("own", 10), ("ways", 11)]) (i := 4) rfl nd rfl rfl (sw_true rfl rfl rfl rfl) (jEnumA (dVar (pv 4)) (by rfl) T.z_enumerate) (blkOk_by (N := ["plan", "many", "ups", "found", "ahead", "at", "low", "high", "one", "other", "own", "ways"]) (sc := defScope st_share_begun) (by decide +kernel)) (fun _ _ _ _ _ => (kT (pg_tup rfl (kC (kN (pg_name (i := 10) nd rfl (.inl rfl))) (kC (kN (pg_name (i := 11) nd rfl (.inl rfl))) kE (pgs_cons (kN (pg_name (i := 11) nd rfl (.inl rfl))) kE)) (pgs_cons (kN (pg_name (i := 10) nd rfl (.inl rfl))) (kC (kN (pg_name (i := 11) nd rfl (.inl rfl))) kE (pgs_cons (kN (pg_name (i := 11) nd rfl (.inl rfl))) kE))))) (gs_len (gs_len gE_len)))) (fun _ _ _ _ _ => bNilT) (fun _ _ _ _ _ => (dIf (bChain op_lt o_cmpI op_lt o_cmpI (dVar (pv 6)) (dVar (pv 10)) (dVar (pv 7))) (dVar (pv 11)) dInt))))))))))
    (hOne (hRet (dCall G_lowest (hr.mono (by omega)) (by rfl) T.m_lowest T.k_lowest T.b_lowest tk (aCons (dVar (pv 3)) (aCons (dCall G_ways_at (hr.mono (by omega)) (by rfl) T.m_ways_at T.k_ways_at T.b_ways_at tk (aCons (dVar (pv 0)) (aCons (dVar (pv 1)) (aCons (dVar (pv 2)) aNil))) (lCons_len (lCons_len (lCons_len lNil_len)))) aNil)) (lCons_len (lCons_len lNil_len)))))))
theorem ok_share_mean (T : Txt K mg ad fd) (F : Fun K "share_mean" "share_mean" st_share_mean (ad 41) (fd 41)) (G_need_plan_at : FnOk P w K mg base (L2.CX P w) 6 (ad 16) (fd 16) ["plan", "rate"] (SpD K cl 2 g_need_plan_at)) (G_chances_of_points : FnOk P w K mg base (L2.CX P w) 4 (ad 22) (fd 22) ["plan", "rate"] (SpD K cl 2 g_chances_of_points)) (G_share_begun : FnOk P w K mg base (L2.CX P w) 4 (ad 40) (fd 40) ["plan", "many", "ups"] (SpD K cl 3 g_share_begun)) (G_product_in : FnOk P w K mg base (L2.CX P w) 3 (ad 39) (fd 39) ["one", "other"] (SpD K cl 2 g_product_in)) (G_sum_over : FnOk P w K mg base (L2.CX P w) 4 (ad 24) (fd 24) ["fractions"] (SpD K cl 1 g_sum_over)) : FnOk P w K mg base (L2.CX P w) 7 (ad 41) (fd 41) ["plan", "rate"] (SpD K cl 2 g_share_mean) := show FnOk P w K mg base (L2.CX P w) 7 (ad 41) (fd 41) ["plan", "rate"] (SpD K cl 2 (bodyD F_share_mean 6)) from okD2 (k := 6) (N := ["plan", "rate", "points", "many", "ups", "chance"]) (ps := ["plan", "rate"]) F_share_mean F sc_share_mean rfl rfl (by decide) fun cdv A outer s H E hr => by
  have nd := sc_share_mean.nd
  have hu := hu_of hr
  have hu64 := hr.units
  have tk : Takes (cxOf (L2.CX P w) P w K mg base ["plan", "rate", "points", "many", "ups", "chance"] "share_mean" (defScope st_share_mean) (ad 41) cdv A outer s H E) (WE0 E) := takes_of rfl rfl rfl rfl
  have ps : PassesOwn (model P w) (cxOf (L2.CX P w) P w K mg base ["plan", "rate", "points", "many", "ups", "chance"] "share_mean" (defScope st_share_mean) (ad 41) cdv A outer s H E).A (cxOf (L2.CX P w) P w K mg base ["plan", "rate", "points", "many", "ups", "chance"] "share_mean" (defScope st_share_mean) (ad 41) cdv A outer s H E).env (cxOf (L2.CX P w) P w K mg base ["plan", "rate", "points", "many", "ups", "chance"] "share_mean" (defScope st_share_mean) (ad 41) cdv A outer s H E).xe := passes_of rfl
  exact (hCons (hExpr (dCall G_need_plan_at (hr.mono (by omega)) (by rfl) T.m_need_plan_at T.k_need_plan_at T.b_need_plan_at tk (aCons (dVar (pv 0)) (aCons (dVar (pv 1)) aNil)) (lCons_len (lCons_len lNil_len))))
    (hCons (hAsg (ps_set (i := 2) nd rfl (.inl rfl) (dCall G_chances_of_points (hr.mono (by omega)) (by rfl) T.m_chances_of_points T.k_chances_of_points T.b_chances_of_points tk (aCons (dVar (pv 0)) (aCons (dVar (pv 1)) aNil)) (lCons_len (lCons_len lNil_len)))))
    (hOne (hRet (dCall G_sum_over (hr.mono (by omega)) (by rfl) T.m_sum_over T.k_sum_over T.b_sum_over tk (aCons (dFE (dLc (pe_lc (own := [("many", 3), ("ups", 4), ("chance", 5)]) rfl nd (jSeq (dVar (pv 2))) (blkOk_by (N := ["plan", "rate", "points", "many", "ups", "chance"]) (sc := defScope st_share_mean) (by decide +kernel)) (fun _ _ _ _ _ => (kT (pg_tup rfl (kC (kN (pg_name (i := 3) nd rfl (.inl rfl))) (kC (kN (pg_name (i := 4) nd rfl (.inl rfl))) (kC (kN (pg_name (i := 5) nd rfl (.inl rfl))) kE (pgs_cons (kN (pg_name (i := 5) nd rfl (.inl rfl))) kE)) (pgs_cons (kN (pg_name (i := 4) nd rfl (.inl rfl))) (kC (kN (pg_name (i := 5) nd rfl (.inl rfl))) kE (pgs_cons (kN (pg_name (i := 5) nd rfl (.inl rfl))) kE)))) (pgs_cons (kN (pg_name (i := 3) nd rfl (.inl rfl))) (kC (kN (pg_name (i := 4) nd rfl (.inl rfl))) (kC (kN (pg_name (i := 5) nd rfl (.inl rfl))) kE (pgs_cons (kN (pg_name (i := 5) nd rfl (.inl rfl))) kE)) (pgs_cons (kN (pg_name (i := 4) nd rfl (.inl rfl))) (kC (kN (pg_name (i := 5) nd rfl (.inl rfl))) kE (pgs_cons (kN (pg_name (i := 5) nd rfl (.inl rfl))) kE))))))) (gs_len (gs_len (gs_len gE_len))))) (fun _ _ _ _ _ => bNilT) (fun _ _ _ _ _ => (dCall G_product_in (hr.mono (by omega)) (by rfl) T.m_product_in T.k_product_in T.b_product_in takes0 (aCons (dCall G_share_begun (hr.mono (by omega)) (by rfl) T.m_share_begun T.k_share_begun T.b_share_begun takes0 (aCons (dVar (pv 0)) (aCons (dVar (pv 3)) (aCons (dVar (pv 4)) aNil))) (lCons_len (lCons_len (lCons_len lNil_len)))) (aCons (dVar (pv 5)) aNil)) (lCons_len (lCons_len lNil_len))))))) aNil) (lCons_len lNil_len))))))
theorem ok__law_plan (T : Txt K mg ad fd) (F : Fun K "_law_plan" "_law_plan" st__law_plan (ad 42) (fd 42)) (G__law_roll : FnOk P w K mg base (L2.CX P w) 1 (ad 32) (fd 32) ["cup", "many"] (SpD K cl 2 g__law_roll)) : FnOk P w K mg base (L2.CX P w) 2 (ad 42) (fd 42) ["cup", "most"] (SpD K cl 2 g__law_plan) := show FnOk P w K mg base (L2.CX P w) 2 (ad 42) (fd 42) ["cup", "most"] (SpD K cl 2 (bodyD F__law_plan 7)) from okD2 (k := 1) (N := ["cup", "most", "many", "way", "found", "low", "own"]) (ps := ["cup", "most"]) F__law_plan F sc__law_plan rfl rfl (by decide) fun cdv A outer s H E hr => by
  have nd := sc__law_plan.nd
  have hu := hu_of hr
  have hu64 := hr.units
  have tk : Takes (cxOf (L2.CX P w) P w K mg base ["cup", "most", "many", "way", "found", "low", "own"] "_law_plan" (defScope st__law_plan) (ad 42) cdv A outer s H E) (WE0 E) := takes_of rfl rfl rfl rfl
  have ps : PassesOwn (model P w) (cxOf (L2.CX P w) P w K mg base ["cup", "most", "many", "way", "found", "low", "own"] "_law_plan" (defScope st__law_plan) (ad 42) cdv A outer s H E).A (cxOf (L2.CX P w) P w K mg base ["cup", "most", "many", "way", "found", "low", "own"] "_law_plan" (defScope st__law_plan) (ad 42) cdv A outer s H E).env (cxOf (L2.CX P w) P w K mg base ["cup", "most", "many", "way", "found", "low", "own"] "_law_plan" (defScope st__law_plan) (ad 42) cdv A outer s H E).xe := passes_of rfl
  exact (hCons (hParT (is := [2, 3, 4, 5]) (ps_asg (pe_tup (jVal (dBin op_addD o_add dInt (dCall G__law_roll (hr.mono (by omega)) (by rfl) T.m__law_roll T.k__law_roll T.b__law_roll tk (aCons (dVar (pv 0)) (aCons (dVar (pv 1)) aNil)) (lCons_len (lCons_len lNil_len)))) (jVal (dCall G__law_roll (hr.mono (by omega)) (by rfl) T.m__law_roll T.k__law_roll T.b__law_roll tk (aCons (dVar (pv 0)) (aCons dInt aNil)) (lCons_len (lCons_len lNil_len))) (jNew (dLst aNil) (jVal (dUn un_neg o_neg dInt) jNil) (pl_mVal (pl_Un (pl_C _)) pl_mNil))))) (pg_tup rfl (pgs_cons (pg_name (i := 2) nd rfl (.inl rfl)) (pgs_cons (pg_name (i := 3) nd rfl (.inl rfl)) (pgs_cons (pg_name (i := 4) nd rfl (.inl rfl)) (pgs_cons (pg_name (i := 5) nd rfl (.inl rfl)) pgs_nil)))))))
    (hCons (hFor (ps_for ps rfl (jRg2 (by rfl) T.z_range (aCons dInt (aCons (dBin op_addD o_add (dVar (pv 2)) dInt) aNil))) (kN (pg_name (i := 6) nd rfl (.inl rfl))) (hCons (hIf (bCmp (op_eqD hu64) o_eq (dVar (pv 3)) dInt (nomark _)) (hOne (hAsg (ps_set (i := 5) nd rfl (.inl rfl) (dCb (call_min2 rfl) c_min2 (by rfl) T.z_min (by decide +kernel) (aCons (dBin op_sub o_sub (dVar (pv 6)) dInt) (aCons (dBin op_addD o_add (dVar (pv 5)) (dIf (bCmp (op_eqD hu64) o_eq (dCall G__law_roll (hr.mono (by omega)) (by rfl) T.m__law_roll T.k__law_roll T.b__law_roll tk (aCons (dVar (pv 0)) (aCons dInt aNil)) (lCons_len (lCons_len lNil_len))) dInt (nomark _)) dInt dInt)) aNil)))))) hNil)
    (hCons (hIf (bCmp (op_eqD hu64) o_eq (dVar (pv 3)) dInt (nomark _)) (hOne (hAsg (ps_set (i := 5) nd rfl (.inl rfl) (dBin op_sub o_sub (dCall G__law_roll (hr.mono (by omega)) (by rfl) T.m__law_roll T.k__law_roll T.b__law_roll tk (aCons (dVar (pv 0)) (aCons (dBin op_addD o_add (dVar (pv 6)) dInt) aNil)) (lCons_len (lCons_len lNil_len))) dInt)))) hNil)
    (hCons (hIf (bCmp (op_eqD hu64) o_eq (dVar (pv 3)) dInt (nomark _)) (hOne (hAsg (ps_set (i := 5) nd rfl (.inl rfl) (dIf (bCmp op_gt o_cmpI (dVar (pv 6)) dInt (nomark _)) (dBin op_sub o_sub (dCty call_int1 c_int (by rfl) T.z_int (by decide +kernel) (aCons (dBin op_divD o_div (dVar (pv 6)) dInt) aNil)) dInt) (dUn un_neg o_neg dInt))))) hNil)
    (hOne (hApp (ps_expr (pe_bm PySem.F.plainAttrs_list PySem.F.slot_list_append PySem.F.type_list_append mt_append (pv 4) (pa_cons (dTup (aCons (dVar (pv 5)) (aCons (dIf (bCmp op_lt o_cmpI (dVar (pv 6)) (dVar (pv 2)) (nomark _)) (dCb (call_min2 rfl) c_min2 (by rfl) T.z_min (by decide +kernel) (aCons dInt (aCons (dBin op_addD o_add (dBin op_addD o_add (dVar (pv 5)) dInt) (dCall G__law_roll (hr.mono (by omega)) (by rfl) T.m__law_roll T.k__law_roll T.b__law_roll tk (aCons (dVar (pv 0)) (aCons dInt aNil)) (lCons_len (lCons_len lNil_len)))) aNil))) (dBin op_addD o_add (dVar (pv 5)) dInt)) aNil))) pa_nil))))))))))
    (hOne (hFrz (i := 4) (hRet (dCty call_tuple_of c_tuple (by rfl) T.z_tuple (by decide +kernel) (aCons (dVar (pv 4)) aNil)))))))
theorem ok_begun_share (T : Txt K mg ad fd) (F : Fun K "begun_share" "begun_share" st_begun_share (ad 43) (fd 43)) (G_need_end_plan : FnOk P w K mg base (L2.CX P w) 5 (ad 11) (fd 11) ["value"] (SpD K cl 1 g_need_end_plan)) (G_need_end_point : FnOk P w K mg base (L2.CX P w) 4 (ad 37) (fd 37) ["plan", "many", "ups"] (SpD K cl 3 g_need_end_point)) (G_share_begun : FnOk P w K mg base (L2.CX P w) 4 (ad 40) (fd 40) ["plan", "many", "ups"] (SpD K cl 3 g_share_begun)) : FnOk P w K mg base (L2.CX P w) 6 (ad 43) (fd 43) ["plan", "many", "ups"] (SpD K cl 3 g_begun_share) := show FnOk P w K mg base (L2.CX P w) 6 (ad 43) (fd 43) ["plan", "many", "ups"] (SpD K cl 3 (bodyD F_begun_share 3)) from okD2 (k := 5) (N := ["plan", "many", "ups"]) (ps := ["plan", "many", "ups"]) F_begun_share F sc_begun_share rfl rfl (by decide) fun cdv A outer s H E hr => by
  have nd := sc_begun_share.nd
  have hu := hu_of hr
  have hu64 := hr.units
  have tk : Takes (cxOf (L2.CX P w) P w K mg base ["plan", "many", "ups"] "begun_share" (defScope st_begun_share) (ad 43) cdv A outer s H E) (WE0 E) := takes_of rfl rfl rfl rfl
  have ps : PassesOwn (model P w) (cxOf (L2.CX P w) P w K mg base ["plan", "many", "ups"] "begun_share" (defScope st_begun_share) (ad 43) cdv A outer s H E).A (cxOf (L2.CX P w) P w K mg base ["plan", "many", "ups"] "begun_share" (defScope st_begun_share) (ad 43) cdv A outer s H E).env (cxOf (L2.CX P w) P w K mg base ["plan", "many", "ups"] "begun_share" (defScope st_begun_share) (ad 43) cdv A outer s H E).xe := passes_of rfl
  exact (hCons (hExpr (dCall G_need_end_plan (hr.mono (by omega)) (by rfl) T.m_need_end_plan T.k_need_end_plan T.b_need_end_plan tk (aCons (dVar (pv 0)) aNil) (lCons_len lNil_len)))
    (hCons (hExpr (dCall G_need_end_point (hr.mono (by omega)) (by rfl) T.m_need_end_point T.k_need_end_point T.b_need_end_point tk (aCons (dVar (pv 0)) (aCons (dVar (pv 1)) (aCons (dVar (pv 2)) aNil))) (lCons_len (lCons_len (lCons_len lNil_len)))))
    (hOne (hRet (dCall G_share_begun (hr.mono (by omega)) (by rfl) T.m_share_begun T.k_share_begun T.b_share_begun tk (aCons (dVar (pv 0)) (aCons (dVar (pv 1)) (aCons (dVar (pv 2)) aNil))) (lCons_len (lCons_len (lCons_len lNil_len))))))))
theorem ok__law_sum (T : Txt K mg ad fd) (F : Fun K "_law_sum" "_law_sum" st__law_sum (ad 44) (fd 44)) (G__law_plus : FnOk P w K mg base (L2.CX P w) 3 (ad 35) (fd 35) ["one", "other"] (SpD K cl 2 g__law_plus)) : FnOk P w K mg base (L2.CX P w) 4 (ad 44) (fd 44) ["fractions"] (SpD K cl 1 g__law_sum) := show FnOk P w K mg base (L2.CX P w) 4 (ad 44) (fd 44) ["fractions"] (SpD K cl 1 (bodyD F__law_sum 3)) from okD2 (k := 3) (N := ["fractions", "found", "own"]) (ps := ["fractions"]) F__law_sum F sc__law_sum rfl rfl (by decide) fun cdv A outer s H E hr => by
  have nd := sc__law_sum.nd
  have hu := hu_of hr
  have hu64 := hr.units
  have tk : Takes (cxOf (L2.CX P w) P w K mg base ["fractions", "found", "own"] "_law_sum" (defScope st__law_sum) (ad 44) cdv A outer s H E) (WE0 E) := takes_of rfl rfl rfl rfl
  have ps : PassesOwn (model P w) (cxOf (L2.CX P w) P w K mg base ["fractions", "found", "own"] "_law_sum" (defScope st__law_sum) (ad 44) cdv A outer s H E).A (cxOf (L2.CX P w) P w K mg base ["fractions", "found", "own"] "_law_sum" (defScope st__law_sum) (ad 44) cdv A outer s H E).env (cxOf (L2.CX P w) P w K mg base ["fractions", "found", "own"] "_law_sum" (defScope st__law_sum) (ad 44) cdv A outer s H E).xe := passes_of rfl
  exact (hCons (hAsg (ps_set (i := 1) nd rfl (.inl rfl) (dTup (aCons dInt (aCons dInt aNil)))))
    (hCons (hFor (ps_for ps rfl (jSeq (dVar (pv 0))) (kN (pg_name (i := 2) nd rfl (.inl rfl))) (hOne (hAsg (ps_set (i := 1) nd rfl (.inl rfl) (dCall G__law_plus (hr.mono (by omega)) (by rfl) T.m__law_plus T.k__law_plus T.b__law_plus tk (aCons (dVar (pv 1)) (aCons (dVar (pv 2)) aNil)) (lCons_len (lCons_len lNil_len))))))))
    (hOne (hRet (dVar (pv 1))))))
theorem ok__law_some (T : Txt K mg ad fd) (F : Fun K "_law_some" "_law_some" st__law_some (ad 45) (fd 45)) (G__law_roll : FnOk P w K mg base (L2.CX P w) 1 (ad 32) (fd 32) ["cup", "many"] (SpD K cl 2 g__law_roll)) : FnOk P w K mg base (L2.CX P w) 2 (ad 45) (fd 45) ["cup", "things"] (SpD K cl 2 g__law_some) := show FnOk P w K mg base (L2.CX P w) 2 (ad 45) (fd 45) ["cup", "things"] (SpD K cl 2 (bodyD F__law_some 2)) from okD2 (k := 1) (N := ["cup", "things"]) (ps := ["cup", "things"]) F__law_some F sc__law_some rfl rfl (by decide) fun cdv A outer s H E hr => by
  have nd := sc__law_some.nd
  have hu := hu_of hr
  have hu64 := hr.units
  have tk : Takes (cxOf (L2.CX P w) P w K mg base ["cup", "things"] "_law_some" (defScope st__law_some) (ad 45) cdv A outer s H E) (WE0 E) := takes_of rfl rfl rfl rfl
  have ps : PassesOwn (model P w) (cxOf (L2.CX P w) P w K mg base ["cup", "things"] "_law_some" (defScope st__law_some) (ad 45) cdv A outer s H E).A (cxOf (L2.CX P w) P w K mg base ["cup", "things"] "_law_some" (defScope st__law_some) (ad 45) cdv A outer s H E).env (cxOf (L2.CX P w) P w K mg base ["cup", "things"] "_law_some" (defScope st__law_some) (ad 45) cdv A outer s H E).xe := passes_of rfl
  exact (hOne (hRet (dIx (dVar (pv 1)) (dCall G__law_roll (hr.mono (by omega)) (by rfl) T.m__law_roll T.k__law_roll T.b__law_roll tk (aCons (dVar (pv 0)) (aCons (dCb call_len c_len (by rfl) T.z_len (by decide +kernel) (aCons (dVar (pv 1)) aNil)) aNil)) (lCons_len (lCons_len lNil_len))) (fun _ _ => rfl))))
theorem ok__law_chance (T : Txt K mg ad fd) (F : Fun K "_law_chance" "_law_chance" st__law_chance (ad 46) (fd 46)) (G__law_power : FnOk P w K mg base (L2.CX P w) 1 (ad 34) (fd 34) ["number", "times"] (SpD K cl 2 g__law_power)) (G__law_least : FnOk P w K mg base (L2.CX P w) 2 (ad 2) (fd 2) ["above", "below"] (SpD K cl 2 g__law_least)) : FnOk P w K mg base (L2.CX P w) 3 (ad 46) (fd 46) ["rate", "many", "ups", "ways"] (SpD K cl 4 g__law_chance) := show FnOk P w K mg base (L2.CX P w) 3 (ad 46) (fd 46) ["rate", "many", "ups", "ways"] (SpD K cl 4 (bodyD F__law_chance 4)) from okD2 (k := 2) (N := ["rate", "many", "ups", "ways"]) (ps := ["rate", "many", "ups", "ways"]) F__law_chance F sc__law_chance rfl rfl (by decide) fun cdv A outer s H E hr => by
  have nd := sc__law_chance.nd
  have hu := hu_of hr
  have hu64 := hr.units
  have tk : Takes (cxOf (L2.CX P w) P w K mg base ["rate", "many", "ups", "ways"] "_law_chance" (defScope st__law_chance) (ad 46) cdv A outer s H E) (WE0 E) := takes_of rfl rfl rfl rfl
  have ps : PassesOwn (model P w) (cxOf (L2.CX P w) P w K mg base ["rate", "many", "ups", "ways"] "_law_chance" (defScope st__law_chance) (ad 46) cdv A outer s H E).A (cxOf (L2.CX P w) P w K mg base ["rate", "many", "ups", "ways"] "_law_chance" (defScope st__law_chance) (ad 46) cdv A outer s H E).env (cxOf (L2.CX P w) P w K mg base ["rate", "many", "ups", "ways"] "_law_chance" (defScope st__law_chance) (ad 46) cdv A outer s H E).xe := passes_of rfl
  exact (hOne (hRet (dCall G__law_least (hr.mono (by omega)) (by rfl) T.m__law_least T.k__law_least T.b__law_least tk (aCons (dBin op_mulD o_mul (dBin op_mulD o_mul (dVar (pv 3)) (dCall G__law_power (hr.mono (by omega)) (by rfl) T.m__law_power T.k__law_power T.b__law_power tk (aCons (dIx (dVar (pv 0)) dInt (fun _ _ => rfl)) (aCons (dVar (pv 2)) aNil)) (lCons_len (lCons_len lNil_len)))) (dCall G__law_power (hr.mono (by omega)) (by rfl) T.m__law_power T.k__law_power T.b__law_power tk (aCons (dBin op_sub o_sub (dIx (dVar (pv 0)) dInt (fun _ _ => rfl)) (dIx (dVar (pv 0)) dInt (fun _ _ => rfl))) (aCons (dBin op_sub o_sub (dVar (pv 1)) (dVar (pv 2))) aNil)) (lCons_len (lCons_len lNil_len)))) (aCons (dCall G__law_power (hr.mono (by omega)) (by rfl) T.m__law_power T.k__law_power T.b__law_power tk (aCons (dIx (dVar (pv 0)) dInt (fun _ _ => rfl)) (aCons (dVar (pv 1)) aNil)) (lCons_len (lCons_len lNil_len))) aNil)) (lCons_len (lCons_len lNil_len)))))
theorem ok__law_points (T : Txt K mg ad fd) (F : Fun K "_law_points" "_law_points" st__law_points (ad 47) (fd 47)) : FnOk P w K mg base (L2.CX P w) 1 (ad 47) (fd 47) ["plan"] (SpD K cl 1 g__law_points) := show FnOk P w K mg base (L2.CX P w) 1 (ad 47) (fd 47) ["plan"] (SpD K cl 1 (bodyD F__law_points 9)) from okD2 (k := 0) (N := ["plan", "here", "found", "at", "low", "high", "later", "ups", "own"]) (ps := ["plan"]) F__law_points F sc__law_points rfl rfl (by decide) fun cdv A outer s H E hr => by
  have nd := sc__law_points.nd
  have hu := hu_of hr
  have hu64 := hr.units
  have tk : Takes (cxOf (L2.CX P w) P w K mg base ["plan", "here", "found", "at", "low", "high", "later", "ups", "own"] "_law_points" (defScope st__law_points) (ad 47) cdv A outer s H E) (WE0 E) := takes_of rfl rfl rfl rfl
  have ps : PassesOwn (model P w) (cxOf (L2.CX P w) P w K mg base ["plan", "here", "found", "at", "low", "high", "later", "ups", "own"] "_law_points" (defScope st__law_points) (ad 47) cdv A outer s H E).A (cxOf (L2.CX P w) P w K mg base ["plan", "here", "found", "at", "low", "high", "later", "ups", "own"] "_law_points" (defScope st__law_points) (ad 47) cdv A outer s H E).env (cxOf (L2.CX P w) P w K mg base ["plan", "here", "found", "at", "low", "high", "later", "ups", "own"] "_law_points" (defScope st__law_points) (ad 47) cdv A outer s H E).xe := passes_of rfl
  exact (hCons (hPar2 (ps_par (i := 1) (j := 2) rfl nd rfl rfl (by decide) rfl rfl (jNew (dDisp1 pe_int pe_int fun _ _ => .int _) (jNew (dLst aNil) jNil pl_mNil) (pl_mNew (pl_Lst pl_lNil) pl_mNil)) (by rfl)))
    (hCons (hFor (ps_for ps rfl (jEnumA (dVar (pv 0)) (by rfl) T.z_enumerate) (kT (pg_tup rfl (kC (kN (pg_name (i := 3) nd rfl (.inl rfl))) (kC (kT (pg_tup rfl (kC (kN (pg_name (i := 4) nd rfl (.inl rfl))) (kC (kN (pg_name (i := 5) nd rfl (.inl rfl))) kE (pgs_cons (kN (pg_name (i := 5) nd rfl (.inl rfl))) kE)) (pgs_cons (kN (pg_name (i := 4) nd rfl (.inl rfl))) (kC (kN (pg_name (i := 5) nd rfl (.inl rfl))) kE (pgs_cons (kN (pg_name (i := 5) nd rfl (.inl rfl))) kE))))) (gs_len (gs_len gE_len))) kE (pgs_cons (kT (pg_tup rfl (kC (kN (pg_name (i := 4) nd rfl (.inl rfl))) (kC (kN (pg_name (i := 5) nd rfl (.inl rfl))) kE (pgs_cons (kN (pg_name (i := 5) nd rfl (.inl rfl))) kE)) (pgs_cons (kN (pg_name (i := 4) nd rfl (.inl rfl))) (kC (kN (pg_name (i := 5) nd rfl (.inl rfl))) kE (pgs_cons (kN (pg_name (i := 5) nd rfl (.inl rfl))) kE))))) (gs_len (gs_len gE_len))) kE)) (pgs_cons (kN (pg_name (i := 3) nd rfl (.inl rfl))) (kC (kT (pg_tup rfl (kC (kN (pg_name (i := 4) nd rfl (.inl rfl))) (kC (kN (pg_name (i := 5) nd rfl (.inl rfl))) kE (pgs_cons (kN (pg_name (i := 5) nd rfl (.inl rfl))) kE)) (pgs_cons (kN (pg_name (i := 4) nd rfl (.inl rfl))) (kC (kN (pg_name (i := 5) nd rfl (.inl rfl))) kE (pgs_cons (kN (pg_name (i := 5) nd rfl (.inl rfl))) kE))))) (gs_len (gs_len gE_len))) kE (pgs_cons (kT (pg_tup rfl (kC (kN (pg_name (i := 4) nd rfl (.inl rfl))) (kC (kN (pg_name (i := 5) nd rfl (.inl rfl))) kE (pgs_cons (kN (pg_name (i := 5) nd rfl (.inl rfl))) kE)) (pgs_cons (kN (pg_name (i := 4) nd rfl (.inl rfl))) (kC (kN (pg_name (i := 5) nd rfl (.inl rfl))) kE (pgs_cons (kN (pg_name (i := 5) nd rfl (.inl rfl))) kE))))) (gs_len (gs_len gE_len))) kE))))) (gs_len (gs_len gE_len))) (hCons (hAsgF (ps_set (i := 6) nd rfl (.inl rfl) dNewK))
    (hCons (hForK (ps_for ps rfl (pi_keys (pv 1)) (kN (pg_name (i := 7) nd rfl (.inl rfl))) (hOne (hFor (ps_for ps rfl (jSeq (dTup (aCons (dVar (pv 7)) (aCons (dBin op_addD o_add (dVar (pv 7)) dInt) aNil)))) (kN (pg_name (i := 8) nd rfl (.inl rfl))) (hOne (hPutK (ps_dput hu (pv 6) (dVar (pv 8)) (dBin op_addD o_add (dBor (dGet2K hu (dVar (pv 6)) (dVar (pv 8)) dInt ⟨rfl, rfl, rfl, rfl⟩) (pl_Get2K (pl_Var 6) (pl_Var 8) (pl_C _))) (dBor (dGetK hu (dVar (pv 1)) (dVar (pv 7))) (pl_GetK (pl_Var 1) (pl_Var 7)))) (by rfl)))))))))
    (hCons (hAsgF (ps_set (i := 1) nd rfl (.inl rfl) dNewK))
    (hOne (hFrz (i := 6) (hFor (ps_for ps rfl (jSeq (dFE (dCbF (call_sortA rfl) c_sortedA (by rfl) T.z_sorted (by decide +kernel) (aCons (dVar (pv 6)) aNil)))) (kN (pg_name (i := 8) nd rfl (.inl rfl))) (hOne (hIf (bChain op_lt o_cmpI op_lt o_cmpI (dVar (pv 4)) (dVar (pv 8)) (dVar (pv 5))) (hOne (hPutK (ps_dput hu (pv 1) (dVar (pv 8)) (dBor (dGetK hu (dVar (pv 6)) (dVar (pv 8))) (pl_GetK (pl_Var 6) (pl_Var 8))) (by rfl)))) (hOne (hApp (ps_expr (pe_bm PySem.F.plainAttrs_list PySem.F.slot_list_append PySem.F.type_list_append mt_append (pv 2) (pa_cons (dTup (aCons (dBin op_addD o_add (dVar (pv 3)) dInt) (aCons (dVar (pv 8)) (aCons (dBor (dGetK hu (dVar (pv 6)) (dVar (pv 8))) (pl_GetK (pl_Var 6) (pl_Var 8))) aNil)))) pa_nil))))))))))))))))
    (hOne (hFrz (i := 2) (hRet (dVar (pv 2)))))))
theorem ok_is_rising (T : Txt K mg ad fd) (F : Fun K "is_rising" "is_rising" st_is_rising (ad 48) (fd 48)) : FnOk P w K mg base (L2.CX P w) 1 (ad 48) (fd 48) ["things"] (SpD K cl 1 g_is_rising) := show FnOk P w K mg base (L2.CX P w) 1 (ad 48) (fd 48) ["things"] (SpD K cl 1 (bodyD F_is_rising 3)) from okD2 (k := 0) (N := ["things", "one", "other"]) (ps := ["things"]) F_is_rising F sc_is_rising rfl rfl (by decide) fun cdv A outer s H E hr => by
  have nd := sc_is_rising.nd
  have hu := hu_of hr
  have hu64 := hr.units
  have tk : Takes (cxOf (L2.CX P w) P w K mg base ["things", "one", "other"] "is_rising" (defScope st_is_rising) (ad 48) cdv A outer s H E) (WE0 E) := takes_of rfl rfl rfl rfl
  have ps : PassesOwn (model P w) (cxOf (L2.CX P w) P w K mg base ["things", "one", "other"] "is_rising" (defScope st_is_rising) (ad 48) cdv A outer s H E).A (cxOf (L2.CX P w) P w K mg base ["things", "one", "other"] "is_rising" (defScope st_is_rising) (ad 48) cdv A outer s H E).env (cxOf (L2.CX P w) P w K mg base ["things", "one", "other"] "is_rising" (defScope st_is_rising) (ad 48) cdv A outer s H E).xe := passes_of rfl
  exact (hOne (hRet (dCb (cr_all rfl) c_all (by rfl) T.z_all (by decide +kernel) (aCons (dFE (dLc (pe_lc (own := [("one", 1), ("other", 2)]) rfl nd (jZipA (RZ.pi_zipA (by rfl) T.z_zip (aCons (dVar (pv 0)) (aCons (dSl (dVar (pv 0)) (dOSome dInt) dONone) aNil)))) (blkOk_by (N := ["things", "one", "other"]) (sc := defScope st_is_rising) (by decide +kernel)) (fun _ _ _ _ _ => (kT (pg_tup rfl (kC (kN (pg_name (i := 1) nd rfl (.inl rfl))) (kC (kN (pg_name (i := 2) nd rfl (.inl rfl))) kE (pgs_cons (kN (pg_name (i := 2) nd rfl (.inl rfl))) kE)) (pgs_cons (kN (pg_name (i := 1) nd rfl (.inl rfl))) (kC (kN (pg_name (i := 2) nd rfl (.inl rfl))) kE (pgs_cons (kN (pg_name (i := 2) nd rfl (.inl rfl))) kE))))) (gs_len (gs_len gE_len)))) (fun _ _ _ _ _ => bNilT) (fun _ _ _ _ _ => (dCmp op_lt o_cmpI (dVar (pv 1)) (dVar (pv 2)) (nomark _)))))) aNil))))
theorem ok_is_share (T : Txt K mg ad fd) (F : Fun K "is_share" "is_share" st_is_share (ad 49) (fd 49)) (G_is_tuple_of : FnOk P w K mg base (L2.CX P w) 1 (ad 6) (fd 6) ["value", "low", "high"] (SpD K cl 3 g_is_tuple_of)) (G_is_whole : FnOk P w K mg base (L2.CX P w) 2 (ad 8) (fd 8) ["value", "low", "high"] (SpD K cl 3 g_is_whole)) (G_fits_chance : FnOk P w K mg base (L2.CX P w) 3 (ad 14) (fd 14) ["value"] (SpD K cl 1 g_fits_chance)) : FnOk P w K mg base (L2.CX P w) 4 (ad 49) (fd 49) ["value"] (SpD K cl 1 g_is_share) := show FnOk P w K mg base (L2.CX P w) 4 (ad 49) (fd 49) ["value"] (SpD K cl 1 (bodyD F_is_share 1)) from okD2 (k := 3) (N := ["value"]) (ps := ["value"]) F_is_share F sc_is_share rfl rfl (by decide) fun cdv A outer s H E hr => by
  have nd := sc_is_share.nd
  have hu := hu_of hr
  have hu64 := hr.units
  have tk : Takes (cxOf (L2.CX P w) P w K mg base ["value"] "is_share" (defScope st_is_share) (ad 49) cdv A outer s H E) (WE0 E) := takes_of rfl rfl rfl rfl
  have ps : PassesOwn (model P w) (cxOf (L2.CX P w) P w K mg base ["value"] "is_share" (defScope st_is_share) (ad 49) cdv A outer s H E).A (cxOf (L2.CX P w) P w K mg base ["value"] "is_share" (defScope st_is_share) (ad 49) cdv A outer s H E).env (cxOf (L2.CX P w) P w K mg base ["value"] "is_share" (defScope st_is_share) (ad 49) cdv A outer s H E).xe := passes_of rfl
  exact (hCons (hIf (bPW (wOr (bNotE (bValE (dCall G_is_tuple_of (hr.mono (by omega)) (by rfl) T.m_is_tuple_of T.k_is_tuple_of T.b_is_tuple_of tk (aCons (dVar (pv 0)) (aCons dInt (aCons dInt aNil))) (lCons_len (lCons_len (lCons_len lNil_len)))))) (wOr1 (bNotE (bValE (dCall G_is_whole (hr.mono (by omega)) (by rfl) T.m_is_whole T.k_is_whole T.b_is_whole tk (aCons (dIx (dVar (pv 0)) dInt (fun _ _ => rfl)) (aCons (dUn un_neg o_neg (dC (pe_glob (v := (.int 1000000)) (by rfl) T.c_FARTHEST.choose_spec ⟨_, rfl⟩) fun _ _ => .int _)) (aCons (dC (pe_glob (v := (.int 1000000)) (by rfl) T.c_FARTHEST.choose_spec ⟨_, rfl⟩) fun _ _ => .int _) aNil))) (lCons_len (lCons_len (lCons_len lNil_len))))))))) (hOne (hRet dBl)) hNil)
    (hOne (hRet (dAnd (dCall G_fits_chance (hr.mono (by omega)) (by rfl) T.m_fits_chance T.k_fits_chance T.b_fits_chance tk (aCons (dIx (dVar (pv 0)) dInt (fun _ _ => rfl)) aNil) (lCons_len lNil_len)) (dOne (dCmp op_gt o_cmpI (dIx (dIx (dVar (pv 0)) dInt (fun _ _ => rfl)) dInt (fun _ _ => rfl)) dInt (nomark _)))))))
theorem ok_fits_chances (T : Txt K mg ad fd) (F : Fun K "fits_chances" "fits_chances" st_fits_chances (ad 50) (fd 50)) (G_is_tuple_of : FnOk P w K mg base (L2.CX P w) 1 (ad 6) (fd 6) ["value", "low", "high"] (SpD K cl 3 g_is_tuple_of)) (G_is_share : FnOk P w K mg base (L2.CX P w) 4 (ad 49) (fd 49) ["value"] (SpD K cl 1 g_is_share)) (G_is_rising : FnOk P w K mg base (L2.CX P w) 1 (ad 48) (fd 48) ["things"] (SpD K cl 1 g_is_rising)) (G_sum_over : FnOk P w K mg base (L2.CX P w) 4 (ad 24) (fd 24) ["fractions"] (SpD K cl 1 g_sum_over)) : FnOk P w K mg base (L2.CX P w) 5 (ad 50) (fd 50) ["value"] (SpD K cl 1 g_fits_chances) := show FnOk P w K mg base (L2.CX P w) 5 (ad 50) (fd 50) ["value"] (SpD K cl 1 (bodyD F_fits_chances 2)) from okD2 (k := 4) (N := ["value", "share"]) (ps := ["value"]) F_fits_chances F sc_fits_chances rfl rfl (by decide) fun cdv A outer s H E hr => by
  have nd := sc_fits_chances.nd
  have hu := hu_of hr
  have hu64 := hr.units
  have tk : Takes (cxOf (L2.CX P w) P w K mg base ["value", "share"] "fits_chances" (defScope st_fits_chances) (ad 50) cdv A outer s H E) (WE0 E) := takes_of rfl rfl rfl rfl
  have ps : PassesOwn (model P w) (cxOf (L2.CX P w) P w K mg base ["value", "share"] "fits_chances" (defScope st_fits_chances) (ad 50) cdv A outer s H E).A (cxOf (L2.CX P w) P w K mg base ["value", "share"] "fits_chances" (defScope st_fits_chances) (ad 50) cdv A outer s H E).env (cxOf (L2.CX P w) P w K mg base ["value", "share"] "fits_chances" (defScope st_fits_chances) (ad 50) cdv A outer s H E).xe := passes_of rfl
  exact (hCons (hIf (bPW (wOr (bNotE (bValE (dCall G_is_tuple_of (hr.mono (by omega)) (by rfl) T.m_is_tuple_of T.k_is_tuple_of T.b_is_tuple_of tk (aCons (dVar (pv 0)) (aCons dInt (aCons (dC (pe_glob (v := (.int 40)) (by rfl) T.c_MOST_VALUES.choose_spec ⟨_, rfl⟩) fun _ _ => .int _) aNil))) (lCons_len (lCons_len (lCons_len lNil_len)))))) (wOr1 (bNotE (bValE (dCb (cr_all rfl) c_all (by rfl) T.z_all (by decide +kernel) (aCons (dFE (dLc (pe_lc (own := [("share", 1)]) rfl nd (jSeq (dVar (pv 0))) (blkOk_by (N := ["value", "share"]) (sc := defScope st_fits_chances) (by decide +kernel)) (fun _ _ _ _ _ => (kN (pg_name (i := 1) nd rfl (.inl rfl)))) (fun _ _ _ _ _ => bNilT) (fun _ _ _ _ _ => (dCall G_is_share (hr.mono (by omega)) (by rfl) T.m_is_share T.k_is_share T.b_is_share takes0 (aCons (dVar (pv 1)) aNil) (lCons_len lNil_len)))))) aNil))))))) (hOne (hRet dBl)) hNil)
    (hOne (hRet (dAnd (dCall G_is_rising (hr.mono (by omega)) (by rfl) T.m_is_rising T.k_is_rising T.b_is_rising tk (aCons (dFE (dLc (pe_lc (own := [("share", 1)]) rfl nd (jSeq (dVar (pv 0))) (blkOk_by (N := ["value", "share"]) (sc := defScope st_fits_chances) (by decide +kernel)) (fun _ _ _ _ _ => (kN (pg_name (i := 1) nd rfl (.inl rfl)))) (fun _ _ _ _ _ => bNilT) (fun _ _ _ _ _ => (dIx (dVar (pv 1)) dInt (fun _ _ => rfl)))))) aNil) (lCons_len lNil_len)) (dOne (dCmp (op_eqD hu64) o_eq (dCall G_sum_over (hr.mono (by omega)) (by rfl) T.m_sum_over T.k_sum_over T.b_sum_over tk (aCons (dFE (dLc (pe_lc (own := [("share", 1)]) rfl nd (jSeq (dVar (pv 0))) (blkOk_by (N := ["value", "share"]) (sc := defScope st_fits_chances) (by decide +kernel)) (fun _ _ _ _ _ => (kN (pg_name (i := 1) nd rfl (.inl rfl)))) (fun _ _ _ _ _ => bNilT) (fun _ _ _ _ _ => (dIx (dVar (pv 1)) dInt (fun _ _ => rfl)))))) aNil) (lCons_len lNil_len)) (dC (pe_glob (v := .ref _) (by rfl) T.c_ONE.choose_spec.1 rfl) T.c_ONE.choose_spec.2) (nomark _)))))))
theorem ok_are_chances (T : Txt K mg ad fd) (F : Fun K "are_chances" "are_chances" st_are_chances (ad 51) (fd 51)) (G_fits_chances : FnOk P w K mg base (L2.CX P w) 5 (ad 50) (fd 50) ["value"] (SpD K cl 1 g_fits_chances)) : FnOk P w K mg base (L2.CX P w) 6 (ad 51) (fd 51) ["value"] (SpD K cl 1 g_are_chances) := show FnOk P w K mg base (L2.CX P w) 6 (ad 51) (fd 51) ["value"] (SpD K cl 1 (bodyD F_are_chances 1)) from okD2 (k := 5) (N := ["value"]) (ps := ["value"]) F_are_chances F sc_are_chances rfl rfl (by decide) fun cdv A outer s H E hr => by
  have nd := sc_are_chances.nd
  have hu := hu_of hr
  have hu64 := hr.units
  have tk : Takes (cxOf (L2.CX P w) P w K mg base ["value"] "are_chances" (defScope st_are_chances) (ad 51) cdv A outer s H E) (WE0 E) := takes_of rfl rfl rfl rfl
  have ps : PassesOwn (model P w) (cxOf (L2.CX P w) P w K mg base ["value"] "are_chances" (defScope st_are_chances) (ad 51) cdv A outer s H E).A (cxOf (L2.CX P w) P w K mg base ["value"] "are_chances" (defScope st_are_chances) (ad 51) cdv A outer s H E).env (cxOf (L2.CX P w) P w K mg base ["value"] "are_chances" (defScope st_are_chances) (ad 51) cdv A outer s H E).xe := passes_of rfl
  exact (hOne (hRet (dCall G_fits_chances (hr.mono (by omega)) (by rfl) T.m_fits_chances T.k_fits_chances T.b_fits_chances tk (aCons (dVar (pv 0)) aNil) (lCons_len lNil_len))))
theorem ok_need_chances (T : Txt K mg ad fd) (F : Fun K "need_chances" "need_chances" st_need_chances (ad 52) (fd 52)) (G_fits_chances : FnOk P w K mg base (L2.CX P w) 5 (ad 50) (fd 50) ["value"] (SpD K cl 1 g_fits_chances)) : FnOk P w K mg base (L2.CX P w) 6 (ad 52) (fd 52) ["value"] (SpD K cl 1 g_need_chances) := show FnOk P w K mg base (L2.CX P w) 6 (ad 52) (fd 52) ["value"] (SpD K cl 1 (bodyD F_need_chances 1)) from okD2 (k := 5) (N := ["value"]) (ps := ["value"]) F_need_chances F sc_need_chances rfl rfl (by decide) fun cdv A outer s H E hr => by
  have nd := sc_need_chances.nd
  have hu := hu_of hr
  have hu64 := hr.units
  have tk : Takes (cxOf (L2.CX P w) P w K mg base ["value"] "need_chances" (defScope st_need_chances) (ad 52) cdv A outer s H E) (WE0 E) := takes_of rfl rfl rfl rfl
  have ps : PassesOwn (model P w) (cxOf (L2.CX P w) P w K mg base ["value"] "need_chances" (defScope st_need_chances) (ad 52) cdv A outer s H E).A (cxOf (L2.CX P w) P w K mg base ["value"] "need_chances" (defScope st_need_chances) (ad 52) cdv A outer s H E).env (cxOf (L2.CX P w) P w K mg base ["value"] "need_chances" (defScope st_need_chances) (ad 52) cdv A outer s H E).xe := passes_of rfl
  exact (hOne (hIf (bNotE (bValE (dCall G_fits_chances (hr.mono (by omega)) (by rfl) T.m_fits_chances T.k_fits_chances T.b_fits_chances tk (aCons (dVar (pv 0)) aNil) (lCons_len lNil_len)))) (hOne hFail) hNil))
theorem ok_mean_of (T : Txt K mg ad fd) (F : Fun K "mean_of" "mean_of" st_mean_of (ad 53) (fd 53)) (G_need_chances : FnOk P w K mg base (L2.CX P w) 6 (ad 52) (fd 52) ["value"] (SpD K cl 1 g_need_chances)) (G_mean_in : FnOk P w K mg base (L2.CX P w) 5 (ad 30) (fd 30) ["chances"] (SpD K cl 1 g_mean_in)) : FnOk P w K mg base (L2.CX P w) 7 (ad 53) (fd 53) ["chances"] (SpD K cl 1 g_mean_of) := show FnOk P w K mg base (L2.CX P w) 7 (ad 53) (fd 53) ["chances"] (SpD K cl 1 (bodyD F_mean_of 1)) from okD2 (k := 6) (N := ["chances"]) (ps := ["chances"]) F_mean_of F sc_mean_of rfl rfl (by decide) fun cdv A outer s H E hr => by
  have nd := sc_mean_of.nd
  have hu := hu_of hr
  have hu64 := hr.units
  have tk : Takes (cxOf (L2.CX P w) P w K mg base ["chances"] "mean_of" (defScope st_mean_of) (ad 53) cdv A outer s H E) (WE0 E) := takes_of rfl rfl rfl rfl
  have ps : PassesOwn (model P w) (cxOf (L2.CX P w) P w K mg base ["chances"] "mean_of" (defScope st_mean_of) (ad 53) cdv A outer s H E).A (cxOf (L2.CX P w) P w K mg base ["chances"] "mean_of" (defScope st_mean_of) (ad 53) cdv A outer s H E).env (cxOf (L2.CX P w) P w K mg base ["chances"] "mean_of" (defScope st_mean_of) (ad 53) cdv A outer s H E).xe := passes_of rfl
  exact (hCons (hExpr (dCall G_need_chances (hr.mono (by omega)) (by rfl) T.m_need_chances T.k_need_chances T.b_need_chances tk (aCons (dVar (pv 0)) aNil) (lCons_len lNil_len)))
    (hOne (hRet (dCall G_mean_in (hr.mono (by omega)) (by rfl) T.m_mean_in T.k_mean_in T.b_mean_in tk (aCons (dVar (pv 0)) aNil) (lCons_len lNil_len)))))
theorem ok__law_right (T : Txt K mg ad fd) (F : Fun K "_law_right" "_law_right" st__law_right (ad 54) (fd 54)) (G__law_points : FnOk P w K mg base (L2.CX P w) 1 (ad 47) (fd 47) ["plan"] (SpD K cl 1 g__law_points)) (G__law_chance : FnOk P w K mg base (L2.CX P w) 3 (ad 46) (fd 46) ["rate", "many", "ups", "ways"] (SpD K cl 4 g__law_chance)) (G__law_sum : FnOk P w K mg base (L2.CX P w) 4 (ad 44) (fd 44) ["fractions"] (SpD K cl 1 g__law_sum)) (G_chance_up : FnOk P w K mg base (L2.CX P w) 7 (ad 26) (fd 26) ["plan", "rate"] (SpD K cl 2 g_chance_up)) (G_chance_down : FnOk P w K mg base (L2.CX P w) 7 (ad 27) (fd 27) ["plan", "rate"] (SpD K cl 2 g_chance_down)) (G__law_plus : FnOk P w K mg base (L2.CX P w) 3 (ad 35) (fd 35) ["one", "other"] (SpD K cl 2 g__law_plus)) (G__law_like : FnOk P w K mg base (L2.CX P w) 14 (ad 5) (fd 5) ["one", "other"] (SpD K cl 2 (g__law_like 12))) (G__law_least : FnOk P w K mg base (L2.CX P w) 2 (ad 2) (fd 2) ["above", "below"] (SpD K cl 2 g__law_least)) (G_trial_chances : FnOk P w K mg base (L2.CX P w) 7 (ad 29) (fd 29) ["plan", "rate"] (SpD K cl 2 g_trial_chances)) (G_mean_trials : FnOk P w K mg base (L2.CX P w) 7 (ad 31) (fd 31) ["plan", "rate"] (SpD K cl 2 g_mean_trials)) (G_share_mean : FnOk P w K mg base (L2.CX P w) 7 (ad 41) (fd 41) ["plan", "rate"] (SpD K cl 2 g_share_mean)) (G_are_chances : FnOk P w K mg base (L2.CX P w) 6 (ad 51) (fd 51) ["value"] (SpD K cl 1 g_are_chances)) (G_mean_of : FnOk P w K mg base (L2.CX P w) 7 (ad 53) (fd 53) ["chances"] (SpD K cl 1 g_mean_of)) (G__law_some : FnOk P w K mg base (L2.CX P w) 2 (ad 45) (fd 45) ["cup", "things"] (SpD K cl 2 g__law_some)) (G_end_chance : FnOk P w K mg base (L2.CX P w) 7 (ad 38) (fd 38) ["plan", "rate", "many", "ups"] (SpD K cl 4 g_end_chance)) (G__law_times : FnOk P w K mg base (L2.CX P w) 3 (ad 3) (fd 3) ["one", "other"] (SpD K cl 2 g__law_times)) : FnOk P w K mg base (L2.CX P w) 15 (ad 54) (fd 54) ["cup", "plan", "rate"] (SpD K cl 3 g__law_right) := show FnOk P w K mg base (L2.CX P w) 15 (ad 54) (fd 54) ["cup", "plan", "rate"] (SpD K cl 3 (bodyD F__law_right 17)) from okD2 (k := 14) (N := ["cup", "plan", "rate", "points", "up", "down", "trials", "mean", "told", "many", "ups", "chance", "ups_mean", "ways", "own", "number", "part"]) (ps := ["cup", "plan", "rate"]) F__law_right F sc__law_right rfl rfl (by decide) fun cdv A outer s H E hr => by
  have nd := sc__law_right.nd
  have hu := hu_of hr
  have hu64 := hr.units
  have tk : Takes (cxOf (L2.CX P w) P w K mg base ["cup", "plan", "rate", "points", "up", "down", "trials", "mean", "told", "many", "ups", "chance", "ups_mean", "ways", "own", "number", "part"] "_law_right" (defScope st__law_right) (ad 54) cdv A outer s H E) (WE0 E) := takes_of rfl rfl rfl rfl
  have ps : PassesOwn (model P w) (cxOf (L2.CX P w) P w K mg base ["cup", "plan", "rate", "points", "up", "down", "trials", "mean", "told", "many", "ups", "chance", "ups_mean", "ways", "own", "number", "part"] "_law_right" (defScope st__law_right) (ad 54) cdv A outer s H E).A (cxOf (L2.CX P w) P w K mg base ["cup", "plan", "rate", "points", "up", "down", "trials", "mean", "told", "many", "ups", "chance", "ups_mean", "ways", "own", "number", "part"] "_law_right" (defScope st__law_right) (ad 54) cdv A outer s H E).env (cxOf (L2.CX P w) P w K mg base ["cup", "plan", "rate", "points", "up", "down", "trials", "mean", "told", "many", "ups", "chance", "ups_mean", "ways", "own", "number", "part"] "_law_right" (defScope st__law_right) (ad 54) cdv A outer s H E).xe := passes_of rfl
  exact (hCons (hAsg (ps_set (i := 3) nd rfl (.inr rfl) (dFE (dLc (pe_lc (own := [("many", 9), ("ups", 10), ("ways", 13)]) rfl nd (jSeq (dCall G__law_points (hr.mono (by omega)) (by rfl) T.m__law_points T.k__law_points T.b__law_points tk (aCons (dVar (pv 1)) aNil) (lCons_len lNil_len))) (blkOk_by (N := ["cup", "plan", "rate", "points", "up", "down", "trials", "mean", "told", "many", "ups", "chance", "ups_mean", "ways", "own", "number", "part"]) (sc := defScope st__law_right) (by decide +kernel)) (fun _ _ _ _ _ => (kT (pg_tup rfl (kC (kN (pg_name (i := 9) nd rfl (.inl rfl))) (kC (kN (pg_name (i := 10) nd rfl (.inl rfl))) (kC (kN (pg_name (i := 13) nd rfl (.inl rfl))) kE (pgs_cons (kN (pg_name (i := 13) nd rfl (.inl rfl))) kE)) (pgs_cons (kN (pg_name (i := 10) nd rfl (.inl rfl))) (kC (kN (pg_name (i := 13) nd rfl (.inl rfl))) kE (pgs_cons (kN (pg_name (i := 13) nd rfl (.inl rfl))) kE)))) (pgs_cons (kN (pg_name (i := 9) nd rfl (.inl rfl))) (kC (kN (pg_name (i := 10) nd rfl (.inl rfl))) (kC (kN (pg_name (i := 13) nd rfl (.inl rfl))) kE (pgs_cons (kN (pg_name (i := 13) nd rfl (.inl rfl))) kE)) (pgs_cons (kN (pg_name (i := 10) nd rfl (.inl rfl))) (kC (kN (pg_name (i := 13) nd rfl (.inl rfl))) kE (pgs_cons (kN (pg_name (i := 13) nd rfl (.inl rfl))) kE))))))) (gs_len (gs_len (gs_len gE_len))))) (fun _ _ _ _ _ => bNilT) (fun _ _ _ _ _ => (dTup (aCons (dVar (pv 9)) (aCons (dVar (pv 10)) (aCons (dCall G__law_chance (hr.mono (by omega)) (by rfl) T.m__law_chance T.k__law_chance T.b__law_chance takes0 (aCons (dVar (pv 2)) (aCons (dVar (pv 9)) (aCons (dVar (pv 10)) (aCons (dVar (pv 13)) aNil)))) (lCons_len (lCons_len (lCons_len (lCons_len lNil_len))))) aNil))))))))))
    (hCons (hAsg (ps_set (i := 4) nd rfl (.inl rfl) (dCall G__law_sum (hr.mono (by omega)) (by rfl) T.m__law_sum T.k__law_sum T.b__law_sum tk (aCons (dFE (dLc (pe_lc (own := [("many", 9), ("ups", 10), ("chance", 11)]) rfl nd (jSeq (dVar (pv 3))) (blkOk_by (N := ["cup", "plan", "rate", "points", "up", "down", "trials", "mean", "told", "many", "ups", "chance", "ups_mean", "ways", "own", "number", "part"]) (sc := defScope st__law_right) (by decide +kernel)) (fun _ _ _ _ _ => (kT (pg_tup rfl (kC (kN (pg_name (i := 9) nd rfl (.inl rfl))) (kC (kN (pg_name (i := 10) nd rfl (.inl rfl))) (kC (kN (pg_name (i := 11) nd rfl (.inl rfl))) kE (pgs_cons (kN (pg_name (i := 11) nd rfl (.inl rfl))) kE)) (pgs_cons (kN (pg_name (i := 10) nd rfl (.inl rfl))) (kC (kN (pg_name (i := 11) nd rfl (.inl rfl))) kE (pgs_cons (kN (pg_name (i := 11) nd rfl (.inl rfl))) kE)))) (pgs_cons (kN (pg_name (i := 9) nd rfl (.inl rfl))) (kC (kN (pg_name (i := 10) nd rfl (.inl rfl))) (kC (kN (pg_name (i := 11) nd rfl (.inl rfl))) kE (pgs_cons (kN (pg_name (i := 11) nd rfl (.inl rfl))) kE)) (pgs_cons (kN (pg_name (i := 10) nd rfl (.inl rfl))) (kC (kN (pg_name (i := 11) nd rfl (.inl rfl))) kE (pgs_cons (kN (pg_name (i := 11) nd rfl (.inl rfl))) kE))))))) (gs_len (gs_len (gs_len gE_len))))) (fun _ _ _ _ _ => (pts_one (bCmp op_ge o_cmpI (dVar (pv 10)) (dIx (dIx (dVar (pv 1)) (dBin op_sub o_sub (dVar (pv 9)) dInt) (fun _ _ => rfl)) dInt (fun _ _ => rfl)) (nomark _)))) (fun _ _ _ _ _ => (dVar (pv 11)))))) aNil) (lCons_len lNil_len))))
    (hCons (hAsg (ps_set (i := 5) nd rfl (.inl rfl) (dCall G__law_sum (hr.mono (by omega)) (by rfl) T.m__law_sum T.k__law_sum T.b__law_sum tk (aCons (dFE (dLc (pe_lc (own := [("many", 9), ("ups", 10), ("chance", 11)]) rfl nd (jSeq (dVar (pv 3))) (blkOk_by (N := ["cup", "plan", "rate", "points", "up", "down", "trials", "mean", "told", "many", "ups", "chance", "ups_mean", "ways", "own", "number", "part"]) (sc := defScope st__law_right) (by decide +kernel)) (fun _ _ _ _ _ => (kT (pg_tup rfl (kC (kN (pg_name (i := 9) nd rfl (.inl rfl))) (kC (kN (pg_name (i := 10) nd rfl (.inl rfl))) (kC (kN (pg_name (i := 11) nd rfl (.inl rfl))) kE (pgs_cons (kN (pg_name (i := 11) nd rfl (.inl rfl))) kE)) (pgs_cons (kN (pg_name (i := 10) nd rfl (.inl rfl))) (kC (kN (pg_name (i := 11) nd rfl (.inl rfl))) kE (pgs_cons (kN (pg_name (i := 11) nd rfl (.inl rfl))) kE)))) (pgs_cons (kN (pg_name (i := 9) nd rfl (.inl rfl))) (kC (kN (pg_name (i := 10) nd rfl (.inl rfl))) (kC (kN (pg_name (i := 11) nd rfl (.inl rfl))) kE (pgs_cons (kN (pg_name (i := 11) nd rfl (.inl rfl))) kE)) (pgs_cons (kN (pg_name (i := 10) nd rfl (.inl rfl))) (kC (kN (pg_name (i := 11) nd rfl (.inl rfl))) kE (pgs_cons (kN (pg_name (i := 11) nd rfl (.inl rfl))) kE))))))) (gs_len (gs_len (gs_len gE_len))))) (fun _ _ _ _ _ => (pts_one (bCmp op_le o_cmpI (dVar (pv 10)) (dIx (dIx (dVar (pv 1)) (dBin op_sub o_sub (dVar (pv 9)) dInt) (fun _ _ => rfl)) dInt (fun _ _ => rfl)) (nomark _)))) (fun _ _ _ _ _ => (dVar (pv 11)))))) aNil) (lCons_len lNil_len))))
    (hCons (hIf (bNotE (bValE (dCall G__law_like (hr.mono (by omega)) (by rfl) T.m__law_like T.k__law_like T.b__law_like tk (aCons (dFE (dLst (aCons (dCall G_chance_up (hr.mono (by omega)) (by rfl) T.m_chance_up T.k_chance_up T.b_chance_up tk (aCons (dVar (pv 1)) (aCons (dVar (pv 2)) aNil)) (lCons_len (lCons_len lNil_len))) (aCons (dCall G_chance_down (hr.mono (by omega)) (by rfl) T.m_chance_down T.k_chance_down T.b_chance_down tk (aCons (dVar (pv 1)) (aCons (dVar (pv 2)) aNil)) (lCons_len (lCons_len lNil_len))) (aCons (dCall G__law_plus (hr.mono (by omega)) (by rfl) T.m__law_plus T.k__law_plus T.b__law_plus tk (aCons (dVar (pv 4)) (aCons (dVar (pv 5)) aNil)) (lCons_len (lCons_len lNil_len))) aNil))))) (aCons (dFE (dLst (aCons (dVar (pv 4)) (aCons (dVar (pv 5)) (aCons (dTup (aCons dInt (aCons dInt aNil))) aNil))))) aNil)) (lCons_len (lCons_len lNil_len))))) (hOne (hRet dBl)) hNil)
    (hCons (hAsg (ps_set (i := 6) nd rfl (.inl rfl) (dCty call_tuple_of c_tuple (by rfl) T.z_tuple (by decide +kernel) (aCons (dFE (dLc (pe_lc (own := [("own", 14)]) rfl nd (jSeq (dFE (dSortSet rfl (by rfl) T.z_sorted (by decide +kernel) (by rfl) T.z_set (by decide +kernel) (aCons (dFE (dLc (pe_lc (own := [("many", 9), ("ups", 10), ("chance", 11)]) rfl nd (jSeq (dVar (pv 3))) (blkOk_by (N := ["cup", "plan", "rate", "points", "up", "down", "trials", "mean", "told", "many", "ups", "chance", "ups_mean", "ways", "own", "number", "part"]) (sc := defScope st__law_right) (by decide +kernel)) (fun _ _ _ _ _ => (kT (pg_tup rfl (kC (kN (pg_name (i := 9) nd rfl (.inl rfl))) (kC (kN (pg_name (i := 10) nd rfl (.inl rfl))) (kC (kN (pg_name (i := 11) nd rfl (.inl rfl))) kE (pgs_cons (kN (pg_name (i := 11) nd rfl (.inl rfl))) kE)) (pgs_cons (kN (pg_name (i := 10) nd rfl (.inl rfl))) (kC (kN (pg_name (i := 11) nd rfl (.inl rfl))) kE (pgs_cons (kN (pg_name (i := 11) nd rfl (.inl rfl))) kE)))) (pgs_cons (kN (pg_name (i := 9) nd rfl (.inl rfl))) (kC (kN (pg_name (i := 10) nd rfl (.inl rfl))) (kC (kN (pg_name (i := 11) nd rfl (.inl rfl))) kE (pgs_cons (kN (pg_name (i := 11) nd rfl (.inl rfl))) kE)) (pgs_cons (kN (pg_name (i := 10) nd rfl (.inl rfl))) (kC (kN (pg_name (i := 11) nd rfl (.inl rfl))) kE (pgs_cons (kN (pg_name (i := 11) nd rfl (.inl rfl))) kE))))))) (gs_len (gs_len (gs_len gE_len))))) (fun _ _ _ _ _ => bNilT) (fun _ _ _ _ _ => (dVar (pv 9)))))) aNil)))) (blkOk_by (N := ["cup", "plan", "rate", "points", "up", "down", "trials", "mean", "told", "many", "ups", "chance", "ups_mean", "ways", "own", "number", "part"]) (sc := defScope st__law_right) (by decide +kernel)) (fun _ _ _ _ _ => (kN (pg_name (i := 14) nd rfl (.inr rfl)))) (fun _ _ _ _ _ => bNilT) (fun _ _ _ _ _ => (dTup (aCons (dVar (pv 14)) (aCons (dCall G__law_sum (hr.mono (by omega)) (by rfl) T.m__law_sum T.k__law_sum T.b__law_sum takes0 (aCons (dFE (dLc (pe_lc (own := [("many", 9), ("ups", 10), ("chance", 11)]) rfl nd (jSeq (dVar (pv 3))) (blkOk_blk (N := ["cup", "plan", "rate", "points", "up", "down", "trials", "mean", "told", "many", "ups", "chance", "ups_mean", "ways", "own", "number", "part"]) (sc := defScope st__law_right) rfl rfl (by decide +kernel)) (fun _ _ _ _ _ => (kT (pg_tup rfl (kC (kN (pg_name (i := 9) nd rfl (.inl rfl))) (kC (kN (pg_name (i := 10) nd rfl (.inl rfl))) (kC (kN (pg_name (i := 11) nd rfl (.inl rfl))) kE (pgs_cons (kN (pg_name (i := 11) nd rfl (.inl rfl))) kE)) (pgs_cons (kN (pg_name (i := 10) nd rfl (.inl rfl))) (kC (kN (pg_name (i := 11) nd rfl (.inl rfl))) kE (pgs_cons (kN (pg_name (i := 11) nd rfl (.inl rfl))) kE)))) (pgs_cons (kN (pg_name (i := 9) nd rfl (.inl rfl))) (kC (kN (pg_name (i := 10) nd rfl (.inl rfl))) (kC (kN (pg_name (i := 11) nd rfl (.inl rfl))) kE (pgs_cons (kN (pg_name (i := 11) nd rfl (.inl rfl))) kE)) (pgs_cons (kN (pg_name (i := 10) nd rfl (.inl rfl))) (kC (kN (pg_name (i := 11) nd rfl (.inl rfl))) kE (pgs_cons (kN (pg_name (i := 11) nd rfl (.inl rfl))) kE))))))) (gs_len (gs_len (gs_len gE_len))))) (fun _ _ _ _ _ => (pts_one (bCmp (op_eqD hu64) o_eq (dVar (pv 9)) (dVar (pv 14)) (nomark _)))) (fun _ _ _ _ _ => (dVar (pv 11)))))) aNil) (lCons_len lNil_len)) aNil))))))) aNil))))
    (hCons (hAsg (ps_set (i := 7) nd rfl (.inl rfl) (dCall G__law_sum (hr.mono (by omega)) (by rfl) T.m__law_sum T.k__law_sum T.b__law_sum tk (aCons (dFE (dLc (pe_lc (own := [("own", 14), ("chance", 11)]) rfl nd (jSeq (dVar (pv 6))) (blkOk_by (N := ["cup", "plan", "rate", "points", "up", "down", "trials", "mean", "told", "many", "ups", "chance", "ups_mean", "ways", "own", "number", "part"]) (sc := defScope st__law_right) (by decide +kernel)) (fun _ _ _ _ _ => (kT (pg_tup rfl (kC (kN (pg_name (i := 14) nd rfl (.inl rfl))) (kC (kN (pg_name (i := 11) nd rfl (.inl rfl))) kE (pgs_cons (kN (pg_name (i := 11) nd rfl (.inl rfl))) kE)) (pgs_cons (kN (pg_name (i := 14) nd rfl (.inl rfl))) (kC (kN (pg_name (i := 11) nd rfl (.inl rfl))) kE (pgs_cons (kN (pg_name (i := 11) nd rfl (.inl rfl))) kE))))) (gs_len (gs_len gE_len)))) (fun _ _ _ _ _ => bNilT) (fun _ _ _ _ _ => (dCall G__law_least (hr.mono (by omega)) (by rfl) T.m__law_least T.k__law_least T.b__law_least takes0 (aCons (dBin op_mulD o_mul (dVar (pv 14)) (dIx (dVar (pv 11)) dInt (fun _ _ => rfl))) (aCons (dIx (dVar (pv 11)) dInt (fun _ _ => rfl)) aNil)) (lCons_len (lCons_len lNil_len))))))) aNil) (lCons_len lNil_len))))
    (hCons (hAsg (ps_set (i := 8) nd rfl (.inl rfl) (dFE (dLst (aCons (dCall G_trial_chances (hr.mono (by omega)) (by rfl) T.m_trial_chances T.k_trial_chances T.b_trial_chances tk (aCons (dVar (pv 1)) (aCons (dVar (pv 2)) aNil)) (lCons_len (lCons_len lNil_len))) (aCons (dCall G_mean_trials (hr.mono (by omega)) (by rfl) T.m_mean_trials T.k_mean_trials T.b_mean_trials tk (aCons (dVar (pv 1)) (aCons (dVar (pv 2)) aNil)) (lCons_len (lCons_len lNil_len))) (aCons (dCall G_share_mean (hr.mono (by omega)) (by rfl) T.m_share_mean T.k_share_mean T.b_share_mean tk (aCons (dVar (pv 1)) (aCons (dVar (pv 2)) aNil)) (lCons_len (lCons_len lNil_len))) aNil)))))))
    (hCons (hIf (bPW (wOr (bNotE (bValE (dCall G__law_like (hr.mono (by omega)) (by rfl) T.m__law_like T.k__law_like T.b__law_like tk (aCons (dVar (pv 8)) (aCons (dFE (dLst (aCons (dVar (pv 6)) (aCons (dVar (pv 7)) (aCons (dVar (pv 2)) aNil))))) aNil)) (lCons_len (lCons_len lNil_len))))) (wOr1 (bNotE (bValE (dCall G__law_like (hr.mono (by omega)) (by rfl) T.m__law_like T.k__law_like T.b__law_like tk (aCons (dFE (dLst (aCons (dCall G_are_chances (hr.mono (by omega)) (by rfl) T.m_are_chances T.k_are_chances T.b_are_chances tk (aCons (dVar (pv 6)) aNil) (lCons_len lNil_len)) (aCons (dCall G_mean_of (hr.mono (by omega)) (by rfl) T.m_mean_of T.k_mean_of T.b_mean_of tk (aCons (dVar (pv 6)) aNil) (lCons_len lNil_len)) aNil)))) (aCons (dFE (dLst (aCons dBl (aCons (dVar (pv 7)) aNil)))) aNil)) (lCons_len (lCons_len lNil_len)))))))) (hOne (hRet dBl)) hNil)
    (hCons (hAsgG (ps_asg (dCall G__law_some (hr.mono (by omega)) (by rfl) T.m__law_some T.k__law_some T.b__law_some tk (aCons (dVar (pv 0)) (aCons (dVar (pv 3)) aNil)) (lCons_len (lCons_len lNil_len))) (kT (pg_tup rfl (kC (kN (pg_name (i := 9) nd rfl (.inl rfl))) (kC (kN (pg_name (i := 10) nd rfl (.inl rfl))) (kC (kN (pg_name (i := 11) nd rfl (.inl rfl))) kE (pgs_cons (kN (pg_name (i := 11) nd rfl (.inl rfl))) kE)) (pgs_cons (kN (pg_name (i := 10) nd rfl (.inl rfl))) (kC (kN (pg_name (i := 11) nd rfl (.inl rfl))) kE (pgs_cons (kN (pg_name (i := 11) nd rfl (.inl rfl))) kE)))) (pgs_cons (kN (pg_name (i := 9) nd rfl (.inl rfl))) (kC (kN (pg_name (i := 10) nd rfl (.inl rfl))) (kC (kN (pg_name (i := 11) nd rfl (.inl rfl))) kE (pgs_cons (kN (pg_name (i := 11) nd rfl (.inl rfl))) kE)) (pgs_cons (kN (pg_name (i := 10) nd rfl (.inl rfl))) (kC (kN (pg_name (i := 11) nd rfl (.inl rfl))) kE (pgs_cons (kN (pg_name (i := 11) nd rfl (.inl rfl))) kE))))))) (gs_len (gs_len (gs_len gE_len))))))
    (hCons (hIf (bNotE (bValE (dCall G__law_like (hr.mono (by omega)) (by rfl) T.m__law_like T.k__law_like T.b__law_like tk (aCons (dCall G_end_chance (hr.mono (by omega)) (by rfl) T.m_end_chance T.k_end_chance T.b_end_chance tk (aCons (dVar (pv 1)) (aCons (dVar (pv 2)) (aCons (dVar (pv 9)) (aCons (dVar (pv 10)) aNil)))) (lCons_len (lCons_len (lCons_len (lCons_len lNil_len))))) (aCons (dVar (pv 11)) aNil)) (lCons_len (lCons_len lNil_len))))) (hOne (hRet dBl)) hNil)
    (hCons (hAsg (ps_set (i := 12) nd rfl (.inl rfl) (dCall G__law_sum (hr.mono (by omega)) (by rfl) T.m__law_sum T.k__law_sum T.b__law_sum tk (aCons (dFE (dLc (pe_lc (own := [("number", 15), ("own", 14), ("part", 16)]) rfl nd (jSeq (dVar (pv 3))) (blkOk_by (N := ["cup", "plan", "rate", "points", "up", "down", "trials", "mean", "told", "many", "ups", "chance", "ups_mean", "ways", "own", "number", "part"]) (sc := defScope st__law_right) (by decide +kernel)) (fun _ _ _ _ _ => (kT (pg_tup rfl (kC (kN (pg_name (i := 15) nd rfl (.inl rfl))) (kC (kN (pg_name (i := 14) nd rfl (.inl rfl))) (kC (kN (pg_name (i := 16) nd rfl (.inl rfl))) kE (pgs_cons (kN (pg_name (i := 16) nd rfl (.inl rfl))) kE)) (pgs_cons (kN (pg_name (i := 14) nd rfl (.inl rfl))) (kC (kN (pg_name (i := 16) nd rfl (.inl rfl))) kE (pgs_cons (kN (pg_name (i := 16) nd rfl (.inl rfl))) kE)))) (pgs_cons (kN (pg_name (i := 15) nd rfl (.inl rfl))) (kC (kN (pg_name (i := 14) nd rfl (.inl rfl))) (kC (kN (pg_name (i := 16) nd rfl (.inl rfl))) kE (pgs_cons (kN (pg_name (i := 16) nd rfl (.inl rfl))) kE)) (pgs_cons (kN (pg_name (i := 14) nd rfl (.inl rfl))) (kC (kN (pg_name (i := 16) nd rfl (.inl rfl))) kE (pgs_cons (kN (pg_name (i := 16) nd rfl (.inl rfl))) kE))))))) (gs_len (gs_len (gs_len gE_len))))) (fun _ _ _ _ _ => bNilT) (fun _ _ _ _ _ => (dCall G__law_least (hr.mono (by omega)) (by rfl) T.m__law_least T.k__law_least T.b__law_least takes0 (aCons (dBin op_mulD o_mul (dVar (pv 14)) (dIx (dVar (pv 16)) dInt (fun _ _ => rfl))) (aCons (dIx (dVar (pv 16)) dInt (fun _ _ => rfl)) aNil)) (lCons_len (lCons_len lNil_len))))))) aNil) (lCons_len lNil_len))))
    (hOne (hRet (dCall G__law_like (hr.mono (by omega)) (by rfl) T.m__law_like T.k__law_like T.b__law_like tk (aCons (dVar (pv 12)) (aCons (dCall G__law_times (hr.mono (by omega)) (by rfl) T.m__law_times T.k__law_times T.b__law_times tk (aCons (dVar (pv 2)) (aCons (dVar (pv 7)) aNil)) (lCons_len (lCons_len lNil_len))) aNil)) (lCons_len (lCons_len lNil_len))))))))))))))))
theorem ok__law_turned_right (T : Txt K mg ad fd) (F : Fun K "_law_turned_right" "_law_turned_right" st__law_turned_right (ad 55) (fd 55)) (G_chance_up : FnOk P w K mg base (L2.CX P w) 7 (ad 26) (fd 26) ["plan", "rate"] (SpD K cl 2 g_chance_up)) (G_chance_down : FnOk P w K mg base (L2.CX P w) 7 (ad 27) (fd 27) ["plan", "rate"] (SpD K cl 2 g_chance_down)) (G_mean_trials : FnOk P w K mg base (L2.CX P w) 7 (ad 31) (fd 31) ["plan", "rate"] (SpD K cl 2 g_mean_trials)) (G__law_like : FnOk P w K mg base (L2.CX P w) 14 (ad 5) (fd 5) ["one", "other"] (SpD K cl 2 (g__law_like 12))) : FnOk P w K mg base (L2.CX P w) 15 (ad 55) (fd 55) ["plan", "rate"] (SpD K cl 2 g__law_turned_right) := show FnOk P w K mg base (L2.CX P w) 15 (ad 55) (fd 55) ["plan", "rate"] (SpD K cl 2 (bodyD F__law_turned_right 8)) from okD2 (k := 14) (N := ["plan", "rate", "turned", "at", "low", "high", "other", "told"]) (ps := ["plan", "rate"]) F__law_turned_right F sc__law_turned_right rfl rfl (by decide) fun cdv A outer s H E hr => by
  have nd := sc__law_turned_right.nd
  have hu := hu_of hr
  have hu64 := hr.units
  have tk : Takes (cxOf (L2.CX P w) P w K mg base ["plan", "rate", "turned", "at", "low", "high", "other", "told"] "_law_turned_right" (defScope st__law_turned_right) (ad 55) cdv A outer s H E) (WE0 E) := takes_of rfl rfl rfl rfl
  have ps : PassesOwn (model P w) (cxOf (L2.CX P w) P w K mg base ["plan", "rate", "turned", "at", "low", "high", "other", "told"] "_law_turned_right" (defScope st__law_turned_right) (ad 55) cdv A outer s H E).A (cxOf (L2.CX P w) P w K mg base ["plan", "rate", "turned", "at", "low", "high", "other", "told"] "_law_turned_right" (defScope st__law_turned_right) (ad 55) cdv A outer s H E).env (cxOf (L2.CX P w) P w K mg base ["plan", "rate", "turned", "at", "low", "high", "other", "told"] "_law_turned_right" (defScope st__law_turned_right) (ad 55) cdv A outer s H E).xe := passes_of rfl
  exact (hCons (hAsgF (ps_set (i := 2) nd rfl (.inl rfl) (dLst aNil)))
    (hCons (hFor (ps_for ps rfl (jEnumA (dVar (pv 0)) (by rfl) T.z_enumerate) (kT (pg_tup rfl (kC (kN (pg_name (i := 3) nd rfl (.inl rfl))) (kC (kT (pg_tup rfl (kC (kN (pg_name (i := 4) nd rfl (.inl rfl))) (kC (kN (pg_name (i := 5) nd rfl (.inl rfl))) kE (pgs_cons (kN (pg_name (i := 5) nd rfl (.inl rfl))) kE)) (pgs_cons (kN (pg_name (i := 4) nd rfl (.inl rfl))) (kC (kN (pg_name (i := 5) nd rfl (.inl rfl))) kE (pgs_cons (kN (pg_name (i := 5) nd rfl (.inl rfl))) kE))))) (gs_len (gs_len gE_len))) kE (pgs_cons (kT (pg_tup rfl (kC (kN (pg_name (i := 4) nd rfl (.inl rfl))) (kC (kN (pg_name (i := 5) nd rfl (.inl rfl))) kE (pgs_cons (kN (pg_name (i := 5) nd rfl (.inl rfl))) kE)) (pgs_cons (kN (pg_name (i := 4) nd rfl (.inl rfl))) (kC (kN (pg_name (i := 5) nd rfl (.inl rfl))) kE (pgs_cons (kN (pg_name (i := 5) nd rfl (.inl rfl))) kE))))) (gs_len (gs_len gE_len))) kE)) (pgs_cons (kN (pg_name (i := 3) nd rfl (.inl rfl))) (kC (kT (pg_tup rfl (kC (kN (pg_name (i := 4) nd rfl (.inl rfl))) (kC (kN (pg_name (i := 5) nd rfl (.inl rfl))) kE (pgs_cons (kN (pg_name (i := 5) nd rfl (.inl rfl))) kE)) (pgs_cons (kN (pg_name (i := 4) nd rfl (.inl rfl))) (kC (kN (pg_name (i := 5) nd rfl (.inl rfl))) kE (pgs_cons (kN (pg_name (i := 5) nd rfl (.inl rfl))) kE))))) (gs_len (gs_len gE_len))) kE (pgs_cons (kT (pg_tup rfl (kC (kN (pg_name (i := 4) nd rfl (.inl rfl))) (kC (kN (pg_name (i := 5) nd rfl (.inl rfl))) kE (pgs_cons (kN (pg_name (i := 5) nd rfl (.inl rfl))) kE)) (pgs_cons (kN (pg_name (i := 4) nd rfl (.inl rfl))) (kC (kN (pg_name (i := 5) nd rfl (.inl rfl))) kE (pgs_cons (kN (pg_name (i := 5) nd rfl (.inl rfl))) kE))))) (gs_len (gs_len gE_len))) kE))))) (gs_len (gs_len gE_len))) (hOne (hApp (ps_expr (pe_bm PySem.F.plainAttrs_list PySem.F.slot_list_append PySem.F.type_list_append mt_append (pv 2) (pa_cons (dTup (aCons (dCb (call_max2 rfl) c_max2 (by rfl) T.z_max (by decide +kernel) (aCons (dUn un_neg o_neg dInt) (aCons (dBin op_sub o_sub (dBin op_addD o_add (dVar (pv 3)) dInt) (dVar (pv 5))) aNil))) (aCons (dCb (call_min2 rfl) c_min2 (by rfl) T.z_min (by decide +kernel) (aCons dInt (aCons (dBin op_sub o_sub (dBin op_addD o_add (dVar (pv 3)) dInt) (dVar (pv 4))) aNil))) aNil))) pa_nil)))))))
    (hCons (hFrz (i := 2) (hIf (bPW (wOr (bCmp (op_neD hu64) o_ne (dFE (dLc (pe_lc (own := [("low", 4), ("high", 5)]) rfl nd (jSeq (dVar (pv 2))) (blkOk_by (N := ["plan", "rate", "turned", "at", "low", "high", "other", "told"]) (sc := defScope st__law_turned_right) (by decide +kernel)) (fun _ _ _ _ _ => (kT (pg_tup rfl (kC (kN (pg_name (i := 4) nd rfl (.inl rfl))) (kC (kN (pg_name (i := 5) nd rfl (.inl rfl))) kE (pgs_cons (kN (pg_name (i := 5) nd rfl (.inl rfl))) kE)) (pgs_cons (kN (pg_name (i := 4) nd rfl (.inl rfl))) (kC (kN (pg_name (i := 5) nd rfl (.inl rfl))) kE (pgs_cons (kN (pg_name (i := 5) nd rfl (.inl rfl))) kE))))) (gs_len (gs_len gE_len)))) (fun _ _ _ _ _ => (pts_one (bNotE (bCmp op_lt o_cmpI (dVar (pv 4)) (dVar (pv 5)) (nomark _))))) (fun _ _ _ _ _ => dInt)))) (dFE (dLst aNil)) (nomark _)) (wOr1 (bCmp (op_neD hu64) o_ne (dIx (dIxO (pv 2) (dUn un_neg o_neg dInt) (fun _ _ => rfl)) dInt (fun _ _ => rfl)) (dBin op_addD o_add (dIx (dIxO (pv 2) (dUn un_neg o_neg dInt) (fun _ _ => rfl)) dInt (fun _ _ => rfl)) dInt) (nomark _))))) (hOne (hRet dBl)) hNil))
    (hCons (hAsg (ps_set (i := 6) nd rfl (.inl rfl) (dTup (aCons (dBin op_sub o_sub (dIx (dVar (pv 1)) dInt (fun _ _ => rfl)) (dIx (dVar (pv 1)) dInt (fun _ _ => rfl))) (aCons (dIx (dVar (pv 1)) dInt (fun _ _ => rfl)) aNil)))))
    (hCons (hFrz (i := 2) (hAsg (ps_set (i := 7) nd rfl (.inl rfl) (dFE (dLst (aCons (dCall G_chance_up (hr.mono (by omega)) (by rfl) T.m_chance_up T.k_chance_up T.b_chance_up tk (aCons (dCty call_tuple_of c_tuple (by rfl) T.z_tuple (by decide +kernel) (aCons (dVar (pv 2)) aNil)) (aCons (dVar (pv 6)) aNil)) (lCons_len (lCons_len lNil_len))) (aCons (dCall G_chance_down (hr.mono (by omega)) (by rfl) T.m_chance_down T.k_chance_down T.b_chance_down tk (aCons (dCty call_tuple_of c_tuple (by rfl) T.z_tuple (by decide +kernel) (aCons (dVar (pv 2)) aNil)) (aCons (dVar (pv 6)) aNil)) (lCons_len (lCons_len lNil_len))) (aCons (dCall G_mean_trials (hr.mono (by omega)) (by rfl) T.m_mean_trials T.k_mean_trials T.b_mean_trials tk (aCons (dCty call_tuple_of c_tuple (by rfl) T.z_tuple (by decide +kernel) (aCons (dVar (pv 2)) aNil)) (aCons (dVar (pv 6)) aNil)) (lCons_len (lCons_len lNil_len))) aNil))))))))
    (hOne (hRet (dCall G__law_like (hr.mono (by omega)) (by rfl) T.m__law_like T.k__law_like T.b__law_like tk (aCons (dVar (pv 7)) (aCons (dFE (dLst (aCons (dCall G_chance_down (hr.mono (by omega)) (by rfl) T.m_chance_down T.k_chance_down T.b_chance_down tk (aCons (dVar (pv 0)) (aCons (dVar (pv 1)) aNil)) (lCons_len (lCons_len lNil_len))) (aCons (dCall G_chance_up (hr.mono (by omega)) (by rfl) T.m_chance_up T.k_chance_up T.b_chance_up tk (aCons (dVar (pv 0)) (aCons (dVar (pv 1)) aNil)) (lCons_len (lCons_len lNil_len))) (aCons (dCall G_mean_trials (hr.mono (by omega)) (by rfl) T.m_mean_trials T.k_mean_trials T.b_mean_trials tk (aCons (dVar (pv 0)) (aCons (dVar (pv 1)) aNil)) (lCons_len (lCons_len lNil_len))) aNil))))) aNil)) (lCons_len (lCons_len lNil_len))))))))))
theorem ok_law (T : Txt K mg ad fd) (F : Fun K "law" "law" st_law (ad 56) (fd 56)) (G__law_cup : FnOk P w K mg base (L2.CX P w) 1 (ad 0) (fd 0) ["script"] (SpF K cl 1 g__law_cup)) (G_chance_up : FnOk P w K mg base (L2.CX P w) 7 (ad 26) (fd 26) ["plan", "rate"] (SpD K cl 2 g_chance_up)) (G_chance_down : FnOk P w K mg base (L2.CX P w) 7 (ad 27) (fd 27) ["plan", "rate"] (SpD K cl 2 g_chance_down)) (G_trial_chances : FnOk P w K mg base (L2.CX P w) 7 (ad 29) (fd 29) ["plan", "rate"] (SpD K cl 2 g_trial_chances)) (G_mean_trials : FnOk P w K mg base (L2.CX P w) 7 (ad 31) (fd 31) ["plan", "rate"] (SpD K cl 2 g_mean_trials)) (G_end_chance : FnOk P w K mg base (L2.CX P w) 7 (ad 38) (fd 38) ["plan", "rate", "many", "ups"] (SpD K cl 4 g_end_chance)) (G_share_mean : FnOk P w K mg base (L2.CX P w) 7 (ad 41) (fd 41) ["plan", "rate"] (SpD K cl 2 g_share_mean)) (G__law_like : FnOk P w K mg base (L2.CX P w) 14 (ad 5) (fd 5) ["one", "other"] (SpD K cl 2 (g__law_like 12))) (G__law_roll : FnOk P w K mg base (L2.CX P w) 1 (ad 32) (fd 32) ["cup", "many"] (SpD K cl 2 g__law_roll)) (G__law_plan : FnOk P w K mg base (L2.CX P w) 2 (ad 42) (fd 42) ["cup", "most"] (SpD K cl 2 g__law_plan)) (G__law_rate : FnOk P w K mg base (L2.CX P w) 3 (ad 33) (fd 33) ["cup"] (SpD K cl 1 g__law_rate)) (G__law_least : FnOk P w K mg base (L2.CX P w) 2 (ad 2) (fd 2) ["above", "below"] (SpD K cl 2 g__law_least)) (G__law_right : FnOk P w K mg base (L2.CX P w) 15 (ad 54) (fd 54) ["cup", "plan", "rate"] (SpD K cl 3 g__law_right)) (G__law_turned_right : FnOk P w K mg base (L2.CX P w) 15 (ad 55) (fd 55) ["plan", "rate"] (SpD K cl 2 g__law_turned_right)) (G__law_power : FnOk P w K mg base (L2.CX P w) 1 (ad 34) (fd 34) ["number", "times"] (SpD K cl 2 g__law_power)) (G__law_plus : FnOk P w K mg base (L2.CX P w) 3 (ad 35) (fd 35) ["one", "other"] (SpD K cl 2 g__law_plus)) (G__law_times : FnOk P w K mg base (L2.CX P w) 3 (ad 3) (fd 3) ["one", "other"] (SpD K cl 2 g__law_times)) (G_begun_share : FnOk P w K mg base (L2.CX P w) 6 (ad 43) (fd 43) ["plan", "many", "ups"] (SpD K cl 3 g_begun_share)) : FnOk P w K mg base (L2.CX P w) 16 (ad 56) (fd 56) ["script"] (SpD K cl 1 g_law) := show FnOk P w K mg base (L2.CX P w) 16 (ad 56) (fd 56) ["script"] (SpD K cl 1 (bodyD F_law 10)) from okD2 (k := 15) (N := ["script", "cup", "some", "told", "most", "plan", "rate", "many", "down", "waited"]) (ps := ["script"]) F_law F sc_law rfl rfl (by decide) fun cdv A outer s H E hr => by
  have nd := sc_law.nd
  have hu := hu_of hr
  have hu64 := hr.units
  have tk : Takes (cxOf (L2.CX P w) P w K mg base ["script", "cup", "some", "told", "most", "plan", "rate", "many", "down", "waited"] "law" (defScope st_law) (ad 56) cdv A outer s H E) (WE0 E) := takes_of rfl rfl rfl rfl
  have ps : PassesOwn (model P w) (cxOf (L2.CX P w) P w K mg base ["script", "cup", "some", "told", "most", "plan", "rate", "many", "down", "waited"] "law" (defScope st_law) (ad 56) cdv A outer s H E).A (cxOf (L2.CX P w) P w K mg base ["script", "cup", "some", "told", "most", "plan", "rate", "many", "down", "waited"] "law" (defScope st_law) (ad 56) cdv A outer s H E).env (cxOf (L2.CX P w) P w K mg base ["script", "cup", "some", "told", "most", "plan", "rate", "many", "down", "waited"] "law" (defScope st_law) (ad 56) cdv A outer s H E).xe := passes_of rfl
  exact (hCons (hAsgF (ps_set (i := 1) nd rfl (.inl rfl) (dCallF G__law_cup (hr.mono (by omega)) (by rfl) T.m__law_cup T.k__law_cup T.b__law_cup tk (aCons (dVar (pv 0)) aNil) (lCons_len lNil_len)))) (hProm (i := 1) (hCons (hAsg (ps_set (i := 2) nd rfl (.inl rfl) (dTup (aCons (dTup (aCons (dUn un_neg o_neg dInt) (aCons dInt aNil))) (aCons (dTup (aCons dInt (aCons dInt aNil))) (aCons (dTup (aCons dInt (aCons dInt aNil))) aNil))))))
    (hCons (hAsg (ps_set (i := 3) nd rfl (.inl rfl) (dFE (dLst (aCons (dCall G_chance_up (hr.mono (by omega)) (by rfl) T.m_chance_up T.k_chance_up T.b_chance_up tk (aCons (dVar (pv 2)) (aCons (dTup (aCons dInt (aCons dInt aNil))) aNil)) (lCons_len (lCons_len lNil_len))) (aCons (dCall G_chance_down (hr.mono (by omega)) (by rfl) T.m_chance_down T.k_chance_down T.b_chance_down tk (aCons (dVar (pv 2)) (aCons (dTup (aCons dInt (aCons dInt aNil))) aNil)) (lCons_len (lCons_len lNil_len))) (aCons (dCall G_trial_chances (hr.mono (by omega)) (by rfl) T.m_trial_chances T.k_trial_chances T.b_trial_chances tk (aCons (dVar (pv 2)) (aCons (dTup (aCons dInt (aCons dInt aNil))) aNil)) (lCons_len (lCons_len lNil_len))) (aCons (dCall G_mean_trials (hr.mono (by omega)) (by rfl) T.m_mean_trials T.k_mean_trials T.b_mean_trials tk (aCons (dVar (pv 2)) (aCons (dTup (aCons dInt (aCons dInt aNil))) aNil)) (lCons_len (lCons_len lNil_len))) aNil))))))))
    (hCons (hAsg (ps_set (i := 3) nd rfl (.inl rfl) (dBin op_addD o_add (dVar (pv 3)) (dFE (dLst (aCons (dCall G_end_chance (hr.mono (by omega)) (by rfl) T.m_end_chance T.k_end_chance T.b_end_chance tk (aCons (dVar (pv 2)) (aCons (dTup (aCons dInt (aCons dInt aNil))) (aCons dInt (aCons dInt aNil)))) (lCons_len (lCons_len (lCons_len (lCons_len lNil_len))))) (aCons (dCall G_share_mean (hr.mono (by omega)) (by rfl) T.m_share_mean T.k_share_mean T.b_share_mean tk (aCons (dVar (pv 2)) (aCons (dTup (aCons dInt (aCons dInt aNil))) aNil)) (lCons_len (lCons_len lNil_len))) aNil)))))))
    (hCons (hIf (bNotE (bValE (dCall G__law_like (hr.mono (by omega)) (by rfl) T.m__law_like T.k__law_like T.b__law_like tk (aCons (dVar (pv 3)) (aCons (dFE (dLst (aCons (dTup (aCons dInt (aCons dInt aNil))) (aCons (dTup (aCons dInt (aCons dInt aNil))) (aCons (dTup (aCons (dTup (aCons dInt (aCons (dTup (aCons dInt (aCons dInt aNil))) aNil))) (aCons (dTup (aCons dInt (aCons (dTup (aCons dInt (aCons dInt aNil))) aNil))) aNil))) (aCons (dTup (aCons dInt (aCons dInt aNil))) (aCons (dTup (aCons dInt (aCons dInt aNil))) (aCons (dTup (aCons dInt (aCons dInt aNil))) aNil)))))))) aNil)) (lCons_len (lCons_len lNil_len))))) (hOne (hRet dBl)) hNil)
    (hCons (hFor (ps_for ps rfl (jSeq (dBin op_addD o_add (dTup (aCons dInt (aCons dInt (aCons dInt (aCons dInt aNil))))) (dIf (bCmp (op_eqD hu64) o_eq (dCall G__law_roll (hr.mono (by omega)) (by rfl) T.m__law_roll T.k__law_roll T.b__law_roll tk (aCons (dVar (pv 1)) (aCons dInt aNil)) (lCons_len (lCons_len lNil_len))) dInt (nomark _)) (dTup (aCons dInt aNil)) (dTup aNil)))) (kN (pg_name (i := 4) nd rfl (.inl rfl))) (hCons (hPar2 (ps_par (i := 5) (j := 6) rfl nd rfl rfl (by decide) rfl rfl (jVal (dCall G__law_plan (hr.mono (by omega)) (by rfl) T.m__law_plan T.k__law_plan T.b__law_plan tk (aCons (dVar (pv 1)) (aCons (dVar (pv 4)) aNil)) (lCons_len (lCons_len lNil_len))) (jVal (dCall G__law_rate (hr.mono (by omega)) (by rfl) T.m__law_rate T.k__law_rate T.b__law_rate tk (aCons (dVar (pv 1)) aNil) (lCons_len lNil_len)) jNil)) (by rfl)))
    (hCons (hIf (bCmp (op_eqD hu64) o_eq (dVar (pv 4)) dInt (nomark _)) (hOne (hPar2 (ps_par (i := 5) (j := 6) rfl nd rfl rfl (by decide) rfl rfl (jVal (dBin op_addD o_add (dBin op_repA o_mulT (dTup (aCons (dTup (aCons (dUn un_neg o_neg dInt) (aCons dInt aNil))) aNil)) (dBin op_sub o_sub dInt (dCb call_len c_len (by rfl) T.z_len (by decide +kernel) (aCons (dVar (pv 5)) aNil)))) (dVar (pv 5))) (jVal (dCall G__law_least (hr.mono (by omega)) (by rfl) T.m__law_least T.k__law_least T.b__law_least tk (aCons dInt (aCons (dBin op_addD o_add dInt (dCall G__law_roll (hr.mono (by omega)) (by rfl) T.m__law_roll T.k__law_roll T.b__law_roll tk (aCons (dVar (pv 1)) (aCons dInt aNil)) (lCons_len (lCons_len lNil_len)))) aNil)) (lCons_len (lCons_len lNil_len))) jNil)) (by rfl)))) hNil)
    (hOne (hIf (bPW (wOr (bNotE (bValE (dCall G__law_right (hr.mono (by omega)) (by rfl) T.m__law_right T.k__law_right T.b__law_right tk (aCons (dVar (pv 1)) (aCons (dVar (pv 5)) (aCons (dVar (pv 6)) aNil))) (lCons_len (lCons_len (lCons_len lNil_len)))))) (wOr1 (bNotE (bValE (dCall G__law_turned_right (hr.mono (by omega)) (by rfl) T.m__law_turned_right T.k__law_turned_right T.b__law_turned_right tk (aCons (dVar (pv 5)) (aCons (dVar (pv 6)) aNil)) (lCons_len (lCons_len lNil_len)))))))) (hOne (hRet dBl)) hNil))))))
    (hCons (hPar2 (ps_par (i := 7) (j := 6) rfl nd rfl rfl (by decide) rfl rfl (jVal (dBin op_addD o_add dInt (dCall G__law_roll (hr.mono (by omega)) (by rfl) T.m__law_roll T.k__law_roll T.b__law_roll tk (aCons (dVar (pv 1)) (aCons dInt aNil)) (lCons_len (lCons_len lNil_len)))) (jVal (dCall G__law_rate (hr.mono (by omega)) (by rfl) T.m__law_rate T.k__law_rate T.b__law_rate tk (aCons (dVar (pv 1)) aNil) (lCons_len lNil_len)) jNil)) (by rfl)))
    (hCons (hAsg (ps_set (i := 5) nd rfl (.inl rfl) (dBin op_addD o_add (dBin op_repA o_mulT (dTup (aCons (dTup (aCons (dUn un_neg o_neg dInt) (aCons dInt aNil))) aNil)) (dBin op_sub o_sub (dVar (pv 7)) dInt)) (dTup (aCons (dTup (aCons dInt (aCons dInt aNil))) aNil)))))
    (hCons (hAsg (ps_set (i := 8) nd rfl (.inl rfl) (dCall G__law_least (hr.mono (by omega)) (by rfl) T.m__law_least T.k__law_least T.b__law_least tk (aCons (dCall G__law_power (hr.mono (by omega)) (by rfl) T.m__law_power T.k__law_power T.b__law_power tk (aCons (dBin op_sub o_sub (dIx (dVar (pv 6)) dInt (fun _ _ => rfl)) (dIx (dVar (pv 6)) dInt (fun _ _ => rfl))) (aCons (dVar (pv 7)) aNil)) (lCons_len (lCons_len lNil_len))) (aCons (dCall G__law_power (hr.mono (by omega)) (by rfl) T.m__law_power T.k__law_power T.b__law_power tk (aCons (dIx (dVar (pv 6)) dInt (fun _ _ => rfl)) (aCons (dVar (pv 7)) aNil)) (lCons_len (lCons_len lNil_len))) aNil)) (lCons_len (lCons_len lNil_len)))))
    (hCons (hAsg (ps_set (i := 9) nd rfl (.inl rfl) (dCall G__law_times (hr.mono (by omega)) (by rfl) T.m__law_times T.k__law_times T.b__law_times tk (aCons (dCall G__law_plus (hr.mono (by omega)) (by rfl) T.m__law_plus T.k__law_plus T.b__law_plus tk (aCons (dTup (aCons dInt (aCons dInt aNil))) (aCons (dTup (aCons (dBin op_sub o_sub dInt (dIx (dVar (pv 8)) dInt (fun _ _ => rfl))) (aCons (dIx (dVar (pv 8)) dInt (fun _ _ => rfl)) aNil))) aNil)) (lCons_len (lCons_len lNil_len))) (aCons (dTup (aCons (dIx (dVar (pv 6)) dInt (fun _ _ => rfl)) (aCons (dIx (dVar (pv 6)) dInt (fun _ _ => rfl)) aNil))) aNil)) (lCons_len (lCons_len lNil_len)))))
    (hOne (hRet (dCall G__law_like (hr.mono (by omega)) (by rfl) T.m__law_like T.k__law_like T.b__law_like tk (aCons (dFE (dLst (aCons (dCall G_chance_down (hr.mono (by omega)) (by rfl) T.m_chance_down T.k_chance_down T.b_chance_down tk (aCons (dVar (pv 5)) (aCons (dVar (pv 6)) aNil)) (lCons_len (lCons_len lNil_len))) (aCons (dCall G_mean_trials (hr.mono (by omega)) (by rfl) T.m_mean_trials T.k_mean_trials T.b_mean_trials tk (aCons (dVar (pv 5)) (aCons (dVar (pv 6)) aNil)) (lCons_len (lCons_len lNil_len))) (aCons (dCall G_begun_share (hr.mono (by omega)) (by rfl) T.m_begun_share T.k_begun_share T.b_begun_share tk (aCons (dVar (pv 5)) (aCons dInt (aCons dInt aNil))) (lCons_len (lCons_len (lCons_len lNil_len)))) aNil))))) (aCons (dFE (dLst (aCons (dVar (pv 8)) (aCons (dVar (pv 9)) (aCons (dTup (aCons dInt (aCons dInt aNil))) aNil))))) aNil)) (lCons_len (lCons_len lNil_len))))))))))))))))
end
end K77
set_option Elab.async false
set_option linter.all false
set_option maxRecDepth 100000
set_option maxHeartbeats 2000000
/-! fractions: Rat as pairs in least terms; their reckoning by denotations. -/
namespace FR
open PySem DC
def fr (q : Rat) : D := .tup [.int q.num, .int ((q.den : Nat) : Int)]
abbrev Sz (n : Nat) (i : Int) : Prop := i.natAbs < 2 ^ n
theorem lt_pow {a m n : Nat} (h : a < 2 ^ m) (hm : m ≤ n) : a < 2 ^ n := Nat.lt_of_lt_of_le h (Nat.pow_le_pow_right (by decide) hm)
theorem Sz.mono {m n : Nat} {i : Int} (h : Sz m i) (hm : m ≤ n) : Sz n i := lt_pow h hm
theorem Sz.mul {m n : Nat} {i j : Int} (h : Sz m i) (h2 : Sz n j) : Sz (m + n) (i * j) := by
  unfold Sz at *
  rw [Int.natAbs_mul, Nat.pow_add]
  exact Nat.mul_lt_mul_of_lt_of_le h (Nat.le_of_lt h2) (Nat.lt_of_le_of_lt (Nat.zero_le _) h2)
theorem Sz.add {m : Nat} {i j : Int} (h : Sz m i) (h2 : Sz m j) : Sz (m + 1) (i + j) := by
  unfold Sz at *
  rw [Nat.pow_succ]
  omega
theorem Sz.neg {m : Nat} {i : Int} (h : Sz m i) : Sz m (-i) := by
  unfold Sz at *
  rw [Int.natAbs_neg]; exact h
theorem Sz.sub {m : Nat} {i j : Int} (h : Sz m i) (h2 : Sz m j) : Sz (m + 1) (i - j) := h.add h2.neg
set_option exponentiation.threshold 10 in
theorem mul_sz {i j : Int} (h : Sz 8900 i) (h2 : Sz 8900 j) : mulD (.int i) (.int j) = some (.int (i * j)) := by
  have e1 : Nat.blt i.natAbs (2 ^ 65536) = true := Nat.ble_eq.mpr (lt_pow h (by decide))
  have e2 : Nat.blt j.natAbs (2 ^ 65536) = true := Nat.ble_eq.mpr (lt_pow h2 (by decide))
  refine ev_mul ?_
  unfold mulOk
  rw [e1, e2]
  simp
set_option exponentiation.threshold 10 in
theorem div_sz {i j : Int} (h : 0 < j) (h2 : Sz 8990 j) : divD (.int i) (.int j) = some (.int (i / j)) := by
  have e : Nat.blt j.natAbs (2 ^ 8999) = true := Nat.ble_eq.mpr (lt_pow h2 (by decide))
  show (if (decide (0 < j) && Nat.blt j.natAbs (2 ^ 8999)) = true then some (D.int (i / j)) else _) = _
  rw [e, decide_eq_true h]
  rfl
/-! ### the greatest common divisor -/
abbrev gcdT : XB := (bVal (xBin neD (xVar 1) (xC (.int 0))))
abbrev gcdL1 : SD := (sPar [0, 1] (mVal (xVar 1) (mVal (xBin modD (xVar 0) (xVar 1)) mNil)))
abbrev gcdL2 : SD := (sPar [0, 1] (mVal (xVar 1) (mVal (xBin modD (xCb intD (lCons (xVar 0) lNil)) (xVar 1)) mNil)))
@[simp] theorem ev_mNil {ρ : DC.Env} {μ : Store} : mNil ρ μ = .ok [] μ := rfl
@[simp] theorem ev_mVal {f : XD} {fs : XM} {ρ : DC.Env} {μ : Store} : mVal f fs ρ μ = (f ρ μ).bind fun d μ1 => (fs ρ μ1).bind fun ds μ2 => .ok ((false, d) :: ds) μ2 := rfl
def parE (is : List Nat) (ds : List (Bool × D)) (ρ : DC.Env) (μ : Store) : SRes := match setAll is ds ρ with
  | some ρ' => .nx ρ' μ
  | none => .fail
@[simp] theorem ev_par {fs : XM} {is : List Nat} {ρ : DC.Env} {μ : Store} : sPar is fs ρ μ = (fs ρ μ).st ρ fun ds μ' => parE is ds ρ μ' := rfl
@[simp] theorem parE_nil (ρ : DC.Env) (μ : Store) : parE [] [] ρ μ = .nx ρ μ := rfl
@[simp] theorem parE_cons (i : Nat) (is : List Nat) (b : Bool) (d : D) (ds : List (Bool × D)) (ρ : DC.Env) (μ : Store) : parE (i :: is) ((b, d) :: ds) ρ μ = parE is ds (ρ.set i (if b then .ow d else .fz d)) μ := rfl
theorem eqII (i j : Int) : eqD (.int i) (.int j) = some (.bl (decide (i = j))) := by
  unfold eqD D.eqv
  simp [D.pd, D.toPy, PyData.eqv]
  rfl
theorem neII (i j : Int) : neD (.int i) (.int j) = some (.bl (!decide (i = j))) := by
  unfold neD D.eqv
  simp [D.pd, D.toPy, PyData.eqv]
  rfl
theorem ev_while_succ (n : Nat) (t : XB) (F : SD) (ρ : DC.Env) (μ : Store) : sWhile (n + 1) t F ρ μ = (t ρ μ).st ρ fun b μ1 => if b then (match F ρ μ1 with
      | .nx ρ' μ' => sWhile n t F ρ' μ'
      | .ct ρ' μ' => sWhile n t F ρ' μ'
      | .bk ρ' μ' => .nx ρ' μ'
      | r => r) else .nx ρ μ1 := rfl
theorem while_stop {n : Nat} {t : XB} {F : SD} {ρ : DC.Env} {μ : Store} (h : t ρ μ = .ok false μ) : sWhile (n + 1) t F ρ μ = .nx ρ μ := by
  rw [ev_while_succ, h]; rfl
theorem while_step {n : Nat} {t : XB} {F : SD} {ρ ρ' : DC.Env} {μ μ' : Store} (h : t ρ μ = .ok true μ) (h2 : F ρ μ = .nx ρ' μ') : sWhile (n + 1) t F ρ μ = sWhile n t F ρ' μ' := by
  rw [ev_while_succ, h]
  show (match F ρ μ with
      | .nx ρ' μ' => sWhile n t F ρ' μ'
      | .ct ρ' μ' => sWhile n t F ρ' μ'
      | .bk ρ' μ' => SRes.nx ρ' μ'
      | r => r) = _
  rw [h2]
theorem gcd_while {L : SD} (hL : ∀ (x y : Nat) (μ : Store), 0 < y → L [.fz (.int (x : Int)), .fz (.int (y : Int))] μ = .nx [.fz (.int (y : Int)), .fz (.int ((x % y : Nat) : Int))] μ) : ∀ (n x y : Nat) (μ : Store), y < n →
    sWhile n gcdT L [.fz (.int (x : Int)), .fz (.int (y : Int))] μ = .nx [.fz (.int (Nat.gcd x y : Nat)), .fz (.int 0)] μ
  | 0, x, y, μ, h => by omega
  | n + 1, x, 0, μ, h => by
    rw [while_stop (by simp [neII])]
    simp
  | n + 1, x, y + 1, μ, h => by
    have hne : ¬ ((y + 1 : Nat) : Int) = 0 := by omega
    have hlt := Nat.mod_lt x (show y + 1 > 0 by omega)
    rw [while_step (ρ' := [.fz (.int ((y + 1 : Nat) : Int)), .fz (.int ((x % (y + 1) : Nat) : Int))]) (μ' := μ) (by simp [neII]; omega) (hL x (y + 1) μ (by omega)), gcd_while hL n (y + 1) (x % (y + 1)) μ (by omega)]
    rw [Nat.gcd_comm x (y + 1), Nat.gcd_rec (y + 1) x, Nat.gcd_comm]
theorem mod_nat (x y : Nat) (h : 0 < y) : modD (.int (x : Int)) (.int (y : Int)) = some (.int ((x % y : Nat) : Int)) := by
  rw [ev_mod (by omega)]
  congr 2
theorem gcd_L1 (x y : Nat) (μ : Store) (h : 0 < y) : gcdL1 [.fz (.int (x : Int)), .fz (.int (y : Int))] μ = .nx [.fz (.int (y : Int)), .fz (.int ((x % y : Nat) : Int))] μ := by
  simp [mod_nat x y h]
theorem gcd_L2 (x y : Nat) (μ : Store) (h : 0 < y) : gcdL2 [.fz (.int (x : Int)), .fz (.int (y : Int))] μ = .nx [.fz (.int (y : Int)), .fz (.int ((x % y : Nat) : Int))] μ := by
  simp [mod_nat x y h]
abbrev gcdF (L : SD) : SD := (sSeq (sPar [0, 1] (mVal (xCb absD (lCons (xVar 0) lNil)) (mVal (xCb absD (lCons (xVar 1) lNil)) mNil)))
    (sSeq (sWhileV (fuelI 1) gcdT L)
    (sRet (xVar 0))))
theorem abs_nat (i : Int) : absD [.int i] = some (.int (i.natAbs : Nat)) := by
  rw [ev_abs]
  congr 2
  split <;> omega
theorem gcd_spec {L : SD} (hL : ∀ (x y : Nat) (μ : Store), 0 < y → L [.fz (.int (x : Int)), .fz (.int (y : Int))] μ = .nx [.fz (.int (y : Int)), .fz (.int ((x % y : Nat) : Int))] μ) (a b : Int) (μ : Store) : bodyD (gcdF L) 2 [.int a, .int b] μ = .ok (.int (Int.gcd a b : Nat)) μ := by
  have h1 := gcd_while hL (b.natAbs + 1) a.natAbs b.natAbs μ (by omega)
  have h2 : sWhileV (fuelI 1) gcdT L [.fz (.int (a.natAbs : Int)), .fz (.int (b.natAbs : Int))] μ = .nx [.fz (.int (Nat.gcd a.natAbs b.natAbs : Nat)), .fz (.int 0)] μ := h1
  simp only [ev_body, gcdF, ev_seq, ev_par, ev_mVal, ev_mNil, ev_cb, ev_lCons, ev_lNil, ev_var, ev_entry, List.map_cons, List.map_nil, List.length_cons, List.length_nil, List.cons_append, List.nil_append, List.getElem?_cons_zero, List.getElem?_cons_succ, slV_fz, ev_bind_ok, abs_nat, ev_ofO_some, ev_st_ok, parE_cons, parE_nil, List.set_cons_zero, List.set_cons_succ, seq_nx, Bool.false_eq_true, if_false, Nat.sub_self, List.replicate_zero]
  rw [h2]
  simp
  rfl
end FR
set_option Elab.async false
set_option linter.all false
set_option maxRecDepth 100000
set_option maxHeartbeats 2000000
namespace FR
open PySem DC
/-! ### lowest, least -/
/-- a fraction of bounded size -/
structure SzR (n : Nat) (q : Rat) : Prop where
  num : Sz n q.num
  den : q.den < 2 ^ n
theorem SzR.mono {m n : Nat} {q : Rat} (h : SzR m q) (hm : m ≤ n) : SzR n q := ⟨h.num.mono hm, lt_pow h.den hm⟩
theorem SzR.denZ {n : Nat} {q : Rat} (h : SzR n q) : Sz n ((q.den : Nat) : Int) := h.den
theorem gcd_pos {a b : Int} (hb : 0 < b) : 0 < Int.gcd a b := Nat.pos_of_ne_zero fun z => by
  have := (Int.gcd_eq_zero_iff.mp z).2
  omega
theorem gcd_le {a b : Int} (hb : 0 < b) : (Int.gcd a b : Int) ≤ b := Int.le_of_dvd hb (Int.gcd_dvd_right a b)
theorem num_of {a b : Int} (hb : 0 < b) : (Rat.divInt a b).num = a / (Int.gcd a b : Int) := by
  rw [Rat.num_divInt, Int.sign_eq_one_of_pos hb, Int.one_mul, Int.gcd_comm]
theorem den_of {a b : Int} (hb : 0 < b) : (((Rat.divInt a b).den : Nat) : Int) = b / (Int.gcd a b : Int) := by
  rw [Rat.den_divInt, if_neg (by omega), Int.natCast_ediv, Int.gcd_comm, Int.natAbs_of_nonneg (by omega)]
theorem fr_divInt {a b : Int} (hb : 0 < b) : fr (Rat.divInt a b) = .tup [.int (a / (Int.gcd a b : Int)), .int (b / (Int.gcd a b : Int))] := by
  unfold fr
  rw [num_of hb, den_of hb]
theorem sz_gcd {a b : Int} {n : Nat} (hb : 0 < b) (h : Sz n b) : Sz n (Int.gcd a b : Int) := by
  have := gcd_le (a := a) hb
  unfold Sz at *
  omega
abbrev lowF (g : List D → Store → Res D) : SD := (sSeq (sAsg 2 (xBin mulD (xCall g (lCons (xVar 0) (lCons (xVar 1) lNil))) (xIf (bVal (xBin gtD (xVar 1) (xC (.int 0)))) (xC (.int 1)) (xUn negD (xC (.int 1))))))
    (sRet (xTup (lCons (xBin divD (xVar 0) (xVar 2)) (lCons (xBin divD (xVar 1) (xVar 2)) lNil)))))
theorem low_spec {g : List D → Store → Res D} (hg : ∀ (a b : Int) (μ : Store), g [.int a, .int b] μ = .ok (.int (Int.gcd a b : Nat)) μ) {a b : Int} (hb : 0 < b) (h : Sz 8990 b) (μ : Store) : bodyD (lowF g) 3 [.int a, .int b] μ = .ok (fr (Rat.divInt a b)) μ := by
  have h1 := ev_mul (i := (Int.gcd a b : Int)) (j := 1) (mulOk_r (by decide))
  have hp := gcd_pos (a := a) hb
  have h2 := div_sz (i := a) (j := (Int.gcd a b : Int)) (by omega) (sz_gcd hb h)
  have h3 := div_sz (i := b) (j := (Int.gcd a b : Int)) (by omega) (sz_gcd hb h)
  rw [fr_divInt hb]
  simp [lowF, hg, hb, h1, h2, h3]
abbrev leastF (g : List D → Store → Res D) : SD := (sSeq (sAsg 2 (xIf (bVal (xBin ltD (xVar 1) (xC (.int 0)))) (xUn negD (xC (.int 1))) (xC (.int 1))))
    (sSeq (sAsg 3 (xCb max2D (lCons (xC (.int 1)) (lCons (xCall g (lCons (xVar 0) (lCons (xVar 1) lNil))) lNil))))
    (sRet (xTup (lCons (xCb intD (lCons (xBin divD (xBin mulD (xVar 2) (xVar 0)) (xVar 3)) lNil)) (lCons (xCb intD (lCons (xBin divD (xBin mulD (xVar 2) (xVar 1)) (xVar 3)) lNil)) lNil))))))
theorem least_spec {g : List D → Store → Res D} (hg : ∀ (a b : Int) (μ : Store), g [.int a, .int b] μ = .ok (.int (Int.gcd a b : Nat)) μ) {a b : Int} (hb : 0 < b) (h : Sz 8990 b) (μ : Store) : bodyD (leastF g) 4 [.int a, .int b] μ = .ok (fr (Rat.divInt a b)) μ := by
  have hp := gcd_pos (a := a) hb
  have hn : ¬ b < 0 := by omega
  have hm : max2D [.int 1, .int (Int.gcd a b : Nat)] = some (.int (Int.gcd a b : Nat)) := by
    show some (D.int (if ((Int.gcd a b : Nat) : Int) > 1 then ((Int.gcd a b : Nat) : Int) else 1)) = _
    congr 2
    split <;> omega
  have h1 := ev_mul (i := 1) (j := a) (mulOk_l (by decide))
  have h1' := ev_mul (i := 1) (j := b) (mulOk_l (by decide))
  have h2 := div_sz (i := a) (j := (Int.gcd a b : Int)) (by omega) (sz_gcd hb h)
  have h3 := div_sz (i := b) (j := (Int.gcd a b : Int)) (by omega) (sz_gcd hb h)
  rw [Int.one_mul] at h1 h1'
  rw [fr_divInt hb]
  simp [leastF, hg, hn, hm, h1, h1', h2, h3]
/-! ### reckoning -/
theorem den_pos (q : Rat) : 0 < ((q.den : Nat) : Int) := by have := q.den_pos; omega
theorem ix0 (q : Rat) (μ : Store) : ixS μ (fr q) (.int 0) = some (.int q.num) := rfl
theorem ix1 (q : Rat) (μ : Store) : ixS μ (fr q) (.int 1) = some (.int ((q.den : Nat) : Int)) := rfl
theorem divInt_fr (q : Rat) : Rat.divInt q.num ((q.den : Nat) : Int) = q := Rat.num_divInt_den q
theorem add_fr (p q : Rat) : Rat.divInt (p.num * ((q.den : Nat) : Int) + q.num * ((p.den : Nat) : Int)) (((p.den : Nat) : Int) * ((q.den : Nat) : Int)) = p + q := by
  conv => rhs; rw [← divInt_fr p, ← divInt_fr q]
  rw [Rat.divInt_add_divInt _ _ (by have := den_pos p; omega) (by have := den_pos q; omega)]
theorem mul_fr (p q : Rat) : Rat.divInt (p.num * q.num) (((p.den : Nat) : Int) * ((q.den : Nat) : Int)) = p * q := by
  conv => rhs; rw [← divInt_fr p, ← divInt_fr q]
  rw [Rat.divInt_mul_divInt]
theorem sub_fr (p q : Rat) : Rat.divInt (p.num * ((q.den : Nat) : Int) - q.num * ((p.den : Nat) : Int)) (((p.den : Nat) : Int) * ((q.den : Nat) : Int)) = p - q := by
  conv => rhs; rw [← divInt_fr p, ← divInt_fr q]
  rw [Rat.divInt_sub_divInt _ _ (by have := den_pos p; omega) (by have := den_pos q; omega)]
def LowOk (g : List D → Store → Res D) : Prop := ∀ (a b : Int) (μ : Store), 0 < b → Sz 8990 b → g [.int a, .int b] μ = .ok (fr (Rat.divInt a b)) μ
abbrev sumF (g : List D → Store → Res D) : SD := (sRet (xCall g (lCons (xBin addD (xBin mulD (xIx (xVar 0) (xC (.int 0))) (xIx (xVar 1) (xC (.int 1)))) (xBin mulD (xIx (xVar 1) (xC (.int 0))) (xIx (xVar 0) (xC (.int 1))))) (lCons (xBin mulD (xIx (xVar 0) (xC (.int 1))) (xIx (xVar 1) (xC (.int 1)))) lNil))))
theorem den_mul_sz {p q : Rat} {m n : Nat} (hp : SzR m p) (hq : SzR n q) (h : m + n ≤ 8990) : 0 < ((p.den : Nat) : Int) * ((q.den : Nat) : Int) ∧ Sz 8990 (((p.den : Nat) : Int) * ((q.den : Nat) : Int)) := by
  refine ⟨Int.mul_pos (den_pos p) (den_pos q), (Sz.mul hp.denZ hq.denZ).mono h⟩
theorem sum_spec {g : List D → Store → Res D} (hg : LowOk g) {p q : Rat} (hp : SzR 4000 p) (hq : SzR 4000 q) (μ : Store) : bodyD (sumF g) 2 [fr p, fr q] μ = .ok (fr (p + q)) μ := by
  obtain ⟨h1, h2⟩ := den_mul_sz hp hq (by decide)
  have m1 := mul_sz (hp.num.mono (n := 8900) (by decide)) (hq.denZ.mono (n := 8900) (by decide))
  have m2 := mul_sz (hq.num.mono (n := 8900) (by decide)) (hp.denZ.mono (n := 8900) (by decide))
  have m3 := mul_sz (hp.denZ.mono (n := 8900) (by decide)) (hq.denZ.mono (n := 8900) (by decide))
  have e := hg (p.num * ((q.den : Nat) : Int) + q.num * ((p.den : Nat) : Int)) _ μ h1 h2
  rw [add_fr] at e
  simp [sumF, ix0, ix1, m1, m2, m3, e]
abbrev mulF (g : List D → Store → Res D) : SD := (sRet (xCall g (lCons (xBin mulD (xIx (xVar 0) (xC (.int 0))) (xIx (xVar 1) (xC (.int 0)))) (lCons (xBin mulD (xIx (xVar 0) (xC (.int 1))) (xIx (xVar 1) (xC (.int 1)))) lNil))))
theorem mul_spec {g : List D → Store → Res D} (hg : LowOk g) {p q : Rat} (hp : SzR 4000 p) (hq : SzR 4000 q) (μ : Store) : bodyD (mulF g) 2 [fr p, fr q] μ = .ok (fr (p * q)) μ := by
  obtain ⟨h1, h2⟩ := den_mul_sz hp hq (by decide)
  have m1 := mul_sz (hp.num.mono (n := 8900) (by decide)) (hq.num.mono (n := 8900) (by decide))
  have m3 := mul_sz (hp.denZ.mono (n := 8900) (by decide)) (hq.denZ.mono (n := 8900) (by decide))
  have e := hg (p.num * q.num) _ μ h1 h2
  rw [mul_fr] at e
  simp [mulF, ix0, ix1, m1, m3, e]
/-! ### size of what divides a number -/
/-- a whole number of R-ths -/
def Dv (R : Nat) (q : Rat) : Prop := ∃ k : Int, q = Rat.divInt k (R : Int)
theorem Dv.den {R : Nat} (hR : 0 < R) {q : Rat} (h : Dv R q) : q.den ≤ R := by
  obtain ⟨k, rfl⟩ := h
  have h1 := den_of (a := k) (b := (R : Int)) (by omega)
  have h2 : (R : Int) / (Int.gcd k R : Int) ≤ R := Int.ediv_le_self _ (by omega)
  omega
theorem Dv.add {R : Nat} (hR : 0 < R) {p q : Rat} (h1 : Dv R p) (h2 : Dv R q) : Dv R (p + q) := by
  obtain ⟨k, rfl⟩ := h1
  obtain ⟨l, rfl⟩ := h2
  refine ⟨k + l, ?_⟩
  rw [Rat.divInt_add_divInt _ _ (by omega) (by omega), ← Int.add_mul, Rat.divInt_mul_right (by omega)]
theorem Dv.zero (R : Nat) : Dv R 0 := ⟨0, (Rat.zero_divInt _).symm⟩
/-- the size by the value's bound -/
theorem Dv.sz {R n m : Nat} (hR : 0 < R) (hR2 : R < 2 ^ n) {q : Rat} (h : Dv R q) (h0 : 0 ≤ q) (h1 : q ≤ ((2 ^ m : Nat) : Rat)) : SzR (n + m) q := by
  have hd := h.den hR
  refine ⟨?_, lt_pow (Nat.lt_of_le_of_lt hd hR2) (by omega)⟩
  have hn : 0 ≤ q.num := Rat.num_nonneg.mpr h0
  have h2 := (Rat.le_iff q _).mp h1
  have e1 : (((2 ^ m : Nat) : Rat)).num = ((2 ^ m : Nat) : Int) := rfl
  have e2 : (((2 ^ m : Nat) : Rat)).den = 1 := rfl
  rw [e1, e2] at h2
  have h3 : q.num ≤ ((2 ^ m : Nat) : Int) * (q.den : Nat) := by simpa using h2
  have h4 : q.num.natAbs ≤ 2 ^ m * q.den := by
    have : ((2 ^ m * q.den : Nat) : Int) = ((2 ^ m : Nat) : Int) * (q.den : Nat) := Int.natCast_mul ..
    omega
  have h5 : 2 ^ m * q.den < 2 ^ m * 2 ^ n := Nat.mul_lt_mul_of_pos_left (Nat.lt_of_le_of_lt hd hR2) (Nat.two_pow_pos m)
  show q.num.natAbs < 2 ^ (n + m)
  rw [Nat.add_comm, Nat.pow_add]
  omega
end FR
set_option Elab.async false
set_option linter.all false
set_option maxRecDepth 100000
set_option maxHeartbeats 2000000
namespace FR
open PySem DC
/-! ### sums -/
def sumQ : List Rat → Rat
  | [] => 0
  | q :: qs => q + sumQ qs
theorem sumQ_app : ∀ a b : List Rat, sumQ (a ++ b) = sumQ a + sumQ b
  | [], b => by show _ = 0 + sumQ b; grind
  | q :: a, b => by
    show q + sumQ (a ++ b) = q + sumQ a + sumQ b
    rw [sumQ_app a b]; grind
theorem sumQ_nn : ∀ {a : List Rat}, (∀ q, q ∈ a → 0 ≤ q) → 0 ≤ sumQ a
  | [], _ => Rat.le_refl
  | q :: a, h => Rat.add_nonneg (h q (by simp)) (sumQ_nn fun x hx => h x (List.mem_cons_of_mem _ hx))
theorem sumQ_mul (c : Rat) : ∀ a : List Rat, sumQ (a.map fun q => c * q) = c * sumQ a
  | [] => by show (0 : Rat) = c * 0; grind
  | q :: a => by
    show c * q + sumQ (a.map fun q => c * q) = c * (q + sumQ a)
    rw [sumQ_mul c a]; grind
theorem sumQ_perm {a b : List Rat} (h : a.Perm b) : sumQ a = sumQ b := by
  induction h with
  | nil => rfl
  | cons x _ ih => show x + _ = x + _; rw [ih]
  | swap x y l => show y + (x + sumQ l) = x + (y + sumQ l); grind
  | trans _ _ h1 h2 => rw [h1, h2]
theorem sumQ_rev (a : List Rat) : sumQ a.reverse = sumQ a := sumQ_perm a.reverse_perm
theorem sumQ_zero : ∀ {a : List Rat}, (∀ q, q ∈ a → q = 0) → sumQ a = 0
  | [], _ => rfl
  | q :: a, h => by
    show q + sumQ a = 0
    rw [h q (by simp), sumQ_zero fun x hx => h x (List.mem_cons_of_mem _ hx)]; grind
theorem sumQ_add {α : Type} (f g : α → Rat) : ∀ l : List α, sumQ (l.map fun x => f x + g x) = sumQ (l.map f) + sumQ (l.map g)
  | [] => by show (0 : Rat) = 0 + 0; grind
  | x :: l => by
    show f x + g x + _ = f x + _ + (g x + _)
    rw [sumQ_add f g l]; grind
theorem sumQ_ge_mem {a : List Rat} (h : ∀ q, q ∈ a → 0 ≤ q) {x : Rat} (hx : x ∈ a) : x ≤ sumQ a := by
  induction a with
  | nil => cases hx
  | cons q a ih =>
    have h1 := sumQ_nn (a := a) fun y hy => h y (List.mem_cons_of_mem _ hy)
    show x ≤ q + sumQ a
    rcases List.mem_cons.mp hx with e | hx
    · subst e; grind
    · have := ih (fun y hy => h y (List.mem_cons_of_mem _ hy)) hx
      have := h q (by simp)
      grind
theorem Dv.sum {R : Nat} (hR : 0 < R) : ∀ {a : List Rat}, (∀ q, q ∈ a → Dv R q) → Dv R (sumQ a)
  | [], _ => Dv.zero R
  | q :: a, h => (h q (by simp)).add hR (Dv.sum hR fun x hx => h x (List.mem_cons_of_mem _ hx))
def SumOk (g : List D → Store → Res D) : Prop := ∀ (p q : Rat) (μ : Store), SzR 4000 p → SzR 4000 q → g [fr p, fr q] μ = .ok (fr (p + q)) μ
abbrev overL (g : List D → Store → Res D) : SD := (sAsg 1 (xCall g (lCons (xVar 1) (lCons (xVar 2) lNil))))
/-- what a list of fractions must keep -/
structure Few (R n m : Nat) (a : List Rat) : Prop where
  pos : 0 < R
  lt : R < 2 ^ n
  le : n + m ≤ 4000
  dv : ∀ q, q ∈ a → Dv R q
  nn : ∀ q, q ∈ a → 0 ≤ q
theorem over_loop {g : List D → Store → Res D} (hg : SumOk g) {R n m : Nat} {s0 : Sl} {μ : Store} : ∀ (a : List Rat) (x : Rat) (s2 : Sl), Few R n m a → Dv R x → 0 ≤ x → x + sumQ a ≤ ((2 ^ m : Nat) : Rat) → ∃ s2', sForL (gN 2) (overL g) (a.map fr) [s0, .fz (fr x), s2] μ = .nx [s0, .fz (fr (x + sumQ a)), s2'] μ
  | [], x, s2, _, _, _, _ => ⟨s2, by show SRes.nx _ _ = _; rw [show x + sumQ [] = x by show x + 0 = x; grind]⟩
  | q :: a, x, s2, hf, hd, h0, h1 => by
    have hd2 := hf.dv q (by simp)
    have hq := hf.nn q (by simp)
    have ha := sumQ_nn (a := a) fun y hy => hf.nn y (List.mem_cons_of_mem _ hy)
    have h1' : x + (q + sumQ a) ≤ ((2 ^ m : Nat) : Rat) := h1
    have b1 := hd.sz hf.pos hf.lt h0 (m := m) (by grind)
    have b2 := hd2.sz hf.pos hf.lt hq (m := m) (by grind)
    obtain ⟨s2', e⟩ := over_loop hg (s0 := s0) (μ := μ) (m := m) a (x + q) (.fz (fr q)) ⟨hf.pos, hf.lt, hf.le, fun y hy => hf.dv y (List.mem_cons_of_mem _ hy), fun y hy => hf.nn y (List.mem_cons_of_mem _ hy)⟩ (hd.add hf.pos hd2) (by grind) (by grind)
    refine ⟨s2', ?_⟩
    have es := hg x q μ (b1.mono hf.le) (b2.mono hf.le)
    rw [List.map_cons, forL_cons (ρ1 := [s0, .fz (fr x), .fz (fr q)]) (ρ2 := [s0, .fz (fr (x + q)), .fz (fr q)]) (μ2 := μ) rfl (by simp [es]), e]
    show SRes.nx [s0, .fz (fr (x + q + sumQ a)), s2'] μ = .nx [s0, .fz (fr (x + (q + sumQ a))), s2'] μ
    rw [show x + q + sumQ a = x + (q + sumQ a) by grind]
abbrev overF (g : List D → Store → Res D) : SD := (sSeq (sAsg 1 (xC (.tup [(.int 0), (.int 1)])))
    (sSeq (sFor (iSeq (xVar 0)) (gN 2) (overL g))
    (sRet (xVar 1))))
abbrev overF' (g : List D → Store → Res D) : SD := (sSeq (sAsg 1 (xTup (lCons (xC (.int 0)) (lCons (xC (.int 1)) lNil))))
    (sSeq (sFor (iSeq (xVar 0)) (gN 2) (overL g))
    (sRet (xVar 1))))
theorem fr0 : (.tup [.int 0, .int 1] : D) = fr 0 := rfl
theorem fr1 : (.tup [.int 1, .int 1] : D) = fr 1 := rfl
theorem over_spec {g : List D → Store → Res D} (hg : SumOk g) {R n m : Nat} {a : List Rat} (hf : Few R n m a) (hs : sumQ a ≤ ((2 ^ m : Nat) : Rat)) (μ : Store) : bodyD (overF g) 3 [.lst (a.map fr)] μ = .ok (fr (sumQ a)) μ ∧ bodyD (overF' g) 3 [.lst (a.map fr)] μ = .ok (fr (sumQ a)) μ := by
  obtain ⟨s2', e⟩ := over_loop hg (s0 := .fz (.lst (a.map fr))) (μ := μ) (m := m) a 0 .no hf (Dv.zero R) Rat.le_refl (by grind)
  rw [show (0 : Rat) + sumQ a = sumQ a by grind] at e
  refine ⟨?_, ?_⟩
  · simp [overF, fr0, e]
  · simp [overF', fr0, e]
theorem sumQ_le_len {c : Rat} (hc : 0 ≤ c) : ∀ {a : List Rat}, (∀ q, q ∈ a → q ≤ c) → sumQ a ≤ (a.length : Rat) * c
  | [], _ => by show (0 : Rat) ≤ ((0 : Nat) : Rat) * c; grind
  | q :: a, h => by
    have h1 := sumQ_le_len hc (a := a) fun x hx => h x (List.mem_cons_of_mem _ hx)
    have h2 := h q (by simp)
    show q + sumQ a ≤ ((a.length + 1 : Nat) : Rat) * c
    have : ((a.length + 1 : Nat) : Rat) = (a.length : Rat) + 1 := Rat.natCast_add ..
    rw [this]
    grind
theorem fr_inj {p q : Rat} (h : fr p = fr q) : p = q := by
  unfold fr at h
  simp at h
  exact Rat.ext h.1 (by omega)
end FR
set_option Elab.async false
set_option linter.all false
set_option maxRecDepth 100000
set_option maxHeartbeats 2000000
namespace FR
open PySem DC
/-! ### powers, chances of points -/
theorem rat_mul_pow (x y : Rat) : ∀ n : Nat, (x * y) ^ n = x ^ n * y ^ n
  | 0 => by grind
  | n + 1 => by
    have := rat_mul_pow x y n
    rw [Rat.pow_succ, Rat.pow_succ, Rat.pow_succ, this]; grind
theorem rat_pow_add (x : Rat) (m : Nat) : ∀ n : Nat, x ^ (m + n) = x ^ m * x ^ n
  | 0 => by grind
  | n + 1 => by
    have := rat_pow_add x m n
    rw [← Nat.add_assoc, Rat.pow_succ, Rat.pow_succ, this]; grind
theorem rat_pow_ne {x : Rat} (h : x ≠ 0) : ∀ n : Nat, x ^ n ≠ 0
  | 0 => by grind
  | n + 1 => by
    have := rat_pow_ne h n
    rw [Rat.pow_succ]
    intro z
    rcases Rat.mul_eq_zero.mp z with z | z
    · exact this z
    · exact h z
theorem cast_pow (a : Int) : ∀ n : Nat, ((a ^ n : Int) : Rat) = (a : Rat) ^ n
  | 0 => by rw [Int.pow_zero, Rat.pow_zero]; rfl
  | n + 1 => by rw [Int.pow_succ, Rat.pow_succ, Rat.intCast_mul, cast_pow a n]
/-- the chance of a point: w ways, u ups, d downs -/
def pc (q : Rat) (w : Int) (u d : Nat) : Rat := (w : Rat) * q ^ u * (1 - q) ^ d
theorem pc_eq {a b : Int} (hb : 0 < b) (w : Int) (u d : Nat) : Rat.divInt (w * a ^ u * (b - a) ^ d) (b ^ (u + d)) = pc (Rat.divInt a b) w u d := by
  unfold pc
  rw [Rat.divInt_eq_div, Rat.divInt_eq_div, Rat.intCast_mul, Rat.intCast_mul, cast_pow, cast_pow, cast_pow, Rat.intCast_sub]
  have hy : (b : Rat) ≠ 0 := by
    intro z
    have := Rat.intCast_inj.mp (z.trans Rat.intCast_zero.symm)
    omega
  generalize (b : Rat) = y at hy
  generalize hq : (a : Rat) / y = q
  have hx : (a : Rat) = q * y := by grind
  rw [hx, show y - q * y = (1 - q) * y by grind, rat_mul_pow, rat_mul_pow, rat_pow_add]
  have h1 := rat_pow_ne hy u
  have h2 := rat_pow_ne hy d
  generalize y ^ u = s at *
  generalize y ^ d = t at *
  generalize q ^ u = m at *
  generalize (1 - q) ^ d = n at *
  have h3 : s * t ≠ 0 := fun z => (Rat.mul_eq_zero.mp z).elim h1 h2
  grind
theorem pc_dv {a b : Int} (hb : 0 < b) (w : Int) (u d : Nat) {N : Nat} (hN : N = (b ^ (u + d)).toNat) : Dv N (pc (Rat.divInt a b) w u d) := by
  refine ⟨w * a ^ u * (b - a) ^ d, ?_⟩
  rw [← pc_eq hb, hN]
  have : 0 ≤ b ^ (u + d) := Int.pow_nonneg (by omega)
  rw [Int.toNat_of_nonneg this]
theorem Dv.up {R S : Nat} {q : Rat} (h : Dv R q) (hs : 0 < S) : Dv (R * S) q := by
  obtain ⟨k, rfl⟩ := h
  refine ⟨k * S, ?_⟩
  rw [Int.natCast_mul, Rat.divInt_mul_right (by omega)]
theorem pc_nn {q : Rat} (h0 : 0 ≤ q) (h1 : q ≤ 1) {w : Int} (hw : 0 ≤ w) (u d : Nat) : 0 ≤ pc q w u d :=
  Rat.mul_nonneg (Rat.mul_nonneg (Rat.intCast_nonneg.mpr hw) (Rat.pow_nonneg h0)) (Rat.pow_nonneg (by grind))
abbrev powL : SD := (sAsg 2 (xBin mulD (xVar 2) (xVar 0)))
abbrev powF : SD := (sSeq (sAsg 2 (xC (.int 1)))
    (sSeq (sFor (iRg1 (lCons (xVar 1) lNil)) (gN 3) powL)
    (sRet (xVar 2))))
def rgI : Int → Nat → List D
  | _, 0 => []
  | lo, n + 1 => .int lo :: rgI (lo + 1) n
theorem rangeD_rg : ∀ (n : Nat) (lo : Int), rangeD lo n = rgI lo n := by
  intro n
  induction n with
  | zero => intro lo; rfl
  | succ n ih =>
    intro lo
    show _ = D.int lo :: rgI (lo + 1) n
    rw [← ih (lo + 1)]
    unfold rangeD
    rw [List.range_succ_eq_map, List.map_cons, List.map_map]
    congr 1
    · show D.int (lo + (0 : Nat)) = _
      rw [show lo + ((0 : Nat) : Int) = lo by omega]
    · apply List.map_congr_left
      intro u _
      show D.int (lo + ((u + 1 : Nat) : Int)) = D.int (lo + 1 + (u : Int))
      rw [show lo + ((u + 1 : Nat) : Int) = lo + 1 + (u : Int) by omega]
theorem pow_loop {b : Int} (hb : b.natAbs < 18446744073709551616) {s1 : Sl} {μ : Store} : ∀ (n : Nat) (lo x : Int) (s3 : Sl), ∃ s3', sForL (gN 3) powL (rgI lo n) [.fz (.int b), s1, .fz (.int x), s3] μ = .nx [.fz (.int b), s1, .fz (.int (x * b ^ n)), s3'] μ
  | 0, lo, x, s3 => ⟨s3, by simp [rgI]⟩
  | n + 1, lo, x, s3 => by
    obtain ⟨s3', e⟩ := pow_loop hb (s1 := s1) (μ := μ) n (lo + 1) (x * b) (.fz (.int lo))
    refine ⟨s3', ?_⟩
    have hm := ev_mul (i := x) (j := b) (mulOk_r hb)
    show sForL _ _ (.int lo :: rgI (lo + 1) n) _ μ = _
    rw [forL_cons (ρ1 := [.fz (.int b), s1, .fz (.int x), .fz (.int lo)]) (ρ2 := [.fz (.int b), s1, .fz (.int (x * b)), .fz (.int lo)]) (μ2 := μ) rfl (by simp [hm]), e]
    have : x * b * b ^ n = x * b ^ (n + 1) := by rw [Int.mul_assoc, Int.pow_succ, Int.mul_comm b (b ^ n)]
    rw [this]
theorem rgOk_int' {i : Int} (h : -1000000 ≤ i) (h2 : i ≤ 1000000) : rgOk i = true := by
  unfold rgOk
  exact Nat.ble_eq.mpr (by omega)
theorem pow_spec {b : Int} (hb : b.natAbs < 18446744073709551616) {n : Nat} (hn : n ≤ 1000) (μ : Store) : bodyD powF 4 [.int b, .int (n : Nat)] μ = .ok (.int (b ^ n)) μ := by
  obtain ⟨s3', e⟩ := pow_loop hb (s1 := .fz (.int (n : Nat))) (μ := μ) n 0 1 .no
  have hr := rgOk_int' (i := (n : Nat)) (by omega) (by omega)
  have hs : iRg1 (lCons (xVar 1) lNil) [.fz (.int b), .fz (.int (n : Nat)), .fz (.int 1), .no] μ = .ok (rgI 0 n) μ := by
    unfold iRg1
    simp [hr, rangeD_rg]
  rw [Int.one_mul] at e
  simp [powF, hs, e]
theorem pow_sz {b : Int} {k : Nat} (h : Sz k b) : ∀ n : Nat, Sz (k * n + 1) (b ^ n)
  | 0 => by unfold Sz; simp
  | n + 1 => by
    have := (pow_sz h n).mul h
    rw [Int.pow_succ]
    exact this.mono (by rw [Nat.mul_succ]; omega)
end FR
set_option Elab.async false
set_option linter.all false
set_option maxRecDepth 100000
set_option maxHeartbeats 2000000
namespace FR
open PySem DC
/-! ### sums by groups -/
theorem sum_ind {k : Int} {c : Rat} : ∀ {nums : List Int}, nums.Nodup → sumQ (nums.map fun n => if k = n then c else 0) = if k ∈ nums then c else 0
  | [], _ => rfl
  | n :: nums, h => by
    have h2 := List.nodup_cons.mp h
    have ih := sum_ind (k := k) (c := c) h2.2
    show (if k = n then c else 0) + sumQ (nums.map fun n => if k = n then c else 0) = _
    rw [ih]
    by_cases e : k = n
    · subst e
      rw [if_pos rfl, if_neg h2.1, if_pos (by simp)]; grind
    · rw [if_neg e]
      by_cases hm : k ∈ nums
      · rw [if_pos hm, if_pos (List.mem_cons_of_mem _ hm)]; grind
      · rw [if_neg hm, if_neg (by simp [e, hm])]; grind
theorem group_sum {α : Type} (κ : α → Int) (f : α → Rat) {nums : List Int} (hn : nums.Nodup) : ∀ l : List α, (∀ x, x ∈ l → κ x ∈ nums) → sumQ (nums.map fun k => sumQ ((l.filter fun x => decide (κ x = k)).map f)) = sumQ (l.map f)
  | [], _ => sumQ_zero fun q hq => by
    obtain ⟨k, _, rfl⟩ := List.mem_map.mp hq
    rfl
  | x :: l, h => by
    have ih := group_sum κ f hn l fun y hy => h y (List.mem_cons_of_mem _ hy)
    have e : (fun k => sumQ (((x :: l).filter fun x => decide (κ x = k)).map f)) = fun k => (if κ x = k then f x else 0) + sumQ ((l.filter fun x => decide (κ x = k)).map f) := by
      funext k
      by_cases hk : κ x = k
      · rw [List.filter_cons_of_pos (by simpa using hk), if_pos hk]; rfl
      · rw [List.filter_cons_of_neg (by simpa using hk), if_neg hk]; grind
    rw [e, sumQ_add, ih, sum_ind hn, if_pos (h x (by simp))]
    rfl
theorem group_mul {α : Type} (κ : α → Int) (f : α → Rat) {nums : List Int} (hn : nums.Nodup) (l : List α) (h : ∀ x, x ∈ l → κ x ∈ nums) : sumQ (nums.map fun (k : Int) => (k : Rat) * sumQ ((l.filter fun x => decide (κ x = k)).map f)) = sumQ (l.map fun x => (κ x : Rat) * f x) := by
  rw [← group_sum κ (fun x => (κ x : Rat) * f x) hn l h]
  congr 1
  apply List.map_congr_left
  intro k _
  rw [← sumQ_mul, List.map_map]
  congr 1
  apply List.map_congr_left
  intro x hx
  have := of_decide_eq_true (List.mem_filter.mp hx).2
  rw [← this]
  rfl
theorem asc_len : ∀ {l : List Int} {a : Int} {n : Nat}, l.Pairwise (· < ·) → (∀ x, x ∈ l → a < x ∧ x ≤ a + n) → l.length ≤ n
  | [], _, _, _, _ => Nat.zero_le _
  | x :: l, a, n, h, hb => by
    have h2 := List.pairwise_cons.mp h
    obtain ⟨b1, b2⟩ := hb x (by simp)
    obtain ⟨m, rfl⟩ : ∃ m, n = m + 1 := ⟨n - 1, by omega⟩
    have := asc_len (l := l) (a := x) (n := (a + (m + 1 : Nat) - x).toNat) h2.2 fun y hy => ⟨h2.1 y hy, by have := (hb y (List.mem_cons_of_mem _ hy)).2; omega⟩
    rw [List.length_cons]
    omega
theorem scale_low {k : Int} {q : Rat} : Rat.divInt (k * q.num) ((q.den : Nat) : Int) = (k : Rat) * q := by
  conv => rhs; rw [← divInt_fr q]
  rw [Rat.divInt_eq_div, Rat.divInt_eq_div, Rat.intCast_mul]
  grind
theorem Dv.scale {R : Nat} {q : Rat} (k : Int) (h : Dv R q) : Dv R ((k : Rat) * q) := by
  obtain ⟨l, rfl⟩ := h
  refine ⟨k * l, ?_⟩
  rw [Rat.divInt_eq_div, Rat.divInt_eq_div, Rat.intCast_mul]
  grind
end FR
set_option Elab.async false
set_option linter.all false
set_option maxRecDepth 100000
set_option maxHeartbeats 2000000
namespace K77
open PySem DC
/-! ### the cup -/
def CupOk (μ : Store) : Prop := ∃ a b : Int, μ = [[a, b]] ∧ 0 ≤ a ∧ 0 ≤ b
theorem ixc0 {a b : Int} : ixS [[a, b]] (.own 0) (.int 0) = some (.int a) := rfl
theorem ixc1 {a b : Int} : ixS [[a, b]] (.own 0) (.int 1) = some (.int b) := rfl
theorem roll_spec {μ : Store} {many : Int} (h : CupOk μ) (h0 : 0 < many) (h1 : many < 1000000) : ∃ v μ', g__law_roll [.own 0, .int many] μ = .ok (.int v) μ' ∧ CupOk μ' ∧ 0 ≤ v ∧ v < many := by
  obtain ⟨a, b, rfl, ha, hb⟩ := h
  unfold g__law_roll F__law_roll
  by_cases hp : 0 < a
  · refine ⟨a % many, [[a / many, b]], ?_, ⟨_, _, rfl, Int.ediv_nonneg ha (by omega), hb⟩, Int.emod_nonneg _ (by omega), Int.emod_lt_of_pos _ h0⟩
    simp [ixc0, hp, ev_mod h0]
    rw [ev_setI (n := 0) (p := 0) (z := a / many) (j := 0) (μ1 := [[a, b]]) (μ2 := [[a, b]]) (ns := [a, b]) rfl (by simp [ixc0, ev_div h0 (show many < 1000000000000000000 by omega)]) rfl rfl rfl]
    simp
  · have hb0 : 0 ≤ (b * 31051 + 7993) % 2147483543 := Int.emod_nonneg _ (by omega)
    have hb1 : (b * 31051 + 7993) % 2147483543 < 2147483543 := Int.emod_lt_of_pos _ (by omega)
    have m1 : mulOk b 31051 = true := mulOk_r (by decide)
    have e1 := ev_setI (ρ := [.fz (.own 0), .fz (.int many), .no, .no]) (μ := [[a, b]]) (i := 0) (n := 0) (p := 1) (fi := xC (.int 1)) (fe := xBin modD (xCb intD (lCons (xBin addD (xBin mulD (xIx (xVar 0) (xC (.int 1))) (xC (.int 31051))) (xC (.int 7993))) lNil)) (xC (.int 2147483543)))
      (z := (b * 31051 + 7993) % 2147483543) (j := 1) (μ1 := [[a, b]]) (μ2 := [[a, b]]) (ns := [a, b]) rfl (by simp [ixc1, ev_mul m1, ev_mod]) rfl rfl rfl
    generalize hc : (b * 31051 + 7993) % 2147483543 = c at *
    have m2 : mulOk c (c + 229) = true := mulOk_r (by omega)
    refine ⟨c * (c + 229) % 2147483587 / 821 % many, [[a, c]], ?_, ⟨_, _, rfl, ha, hb0⟩, Int.emod_nonneg _ (by omega), Int.emod_lt_of_pos _ h0⟩
    simp [ixc0, hp, e1]
    simp [ixc1, ev_mul m2, ev_mod, ev_div, h0]
theorem some_lst {μ : Store} {ds : List D} (h : CupOk μ) (h0 : 0 < ds.length) (h1 : ds.length < 1000000) : ∃ d μ', g__law_some [.own 0, .lst ds] μ = .ok d μ' ∧ CupOk μ' ∧ d ∈ ds := by
  obtain ⟨v, μ', e, c, v0, v1⟩ := roll_spec (many := ds.length) h (by omega) (by omega)
  obtain ⟨i, rfl⟩ := Int.eq_ofNat_of_zero_le v0
  have hi : i < ds.length := by omega
  refine ⟨ds[i], μ', ?_, c, List.getElem_mem hi⟩
  unfold g__law_some F__law_some
  simp [lenD, e]
  have : ixS μ' (.lst ds) (.int (i : Nat)) = some ds[i] := by
    show L2.atI ds (i : Nat) = some ds[i]
    exact L2.atI_nat (List.getElem?_eq_getElem hi)
  rw [this]
  rfl
end K77
set_option Elab.async false
set_option linter.all false
set_option maxRecDepth 100000
set_option maxHeartbeats 2000000
namespace K77
open PySem DC
/-! ### equality of data -/
theorem eqvAll_refl (xs : List D) (h : ∀ x, x ∈ xs → PyData.eqv x.toPy x.toPy = true) : PyData.eqvAll (D.toPyA xs) (D.toPyA xs) = true := by
  induction xs with
  | nil => simp [D.toPyA, PyData.eqvAll]
  | cons x xs ih =>
    simp only [D.toPyA, PyData.eqvAll]
    rw [h x (by simp), ih fun y hy => h y (List.mem_cons_of_mem _ hy)]
    rfl
theorem eqv_refl : ∀ (n : Nat) (d : D), D.pd n d = true → D.eqv d d = true
  | 0, d, h => by simp [D.pd] at h
  | n + 1, d, h => by
    unfold D.eqv
    cases d with
    | non => simp [D.toPy, PyData.eqv]
    | bl b => simp [D.toPy, PyData.eqv]
    | int i => simp [D.toPy, PyData.eqv]
    | str x => simp [D.toPy, PyData.eqv]
    | tup xs =>
      simp only [D.toPy, PyData.eqv]
      have hx : xs.all (D.pd n) = true := h
      exact eqvAll_refl xs fun x hx' => eqv_refl n x (List.all_eq_true.mp hx x hx')
    | lst xs =>
      simp only [D.toPy, PyData.eqv]
      have hx : xs.all (D.pd n) = true := h
      exact eqvAll_refl xs fun x hx' => eqv_refl n x (List.all_eq_true.mp hx x hx')
    | scr _ => simp [D.pd] at h
    | dk _ _ => simp [D.pd] at h
    | dt _ _ => simp [D.pd] at h
    | own _ => simp [D.pd] at h
theorem pd_mono : ∀ (n m : Nat) (d : D), n ≤ m → D.pd n d = true → D.pd m d = true
  | 0, m, d, _, h => by simp [D.pd] at h
  | n + 1, 0, d, hm, h => by omega
  | n + 1, m + 1, d, hm, h => by
    cases d with
    | tup xs =>
      have hx : xs.all (D.pd n) = true := h
      show xs.all (D.pd m) = true
      rw [List.all_eq_true] at hx ⊢
      exact fun x hx' => pd_mono n m x (by omega) (hx x hx')
    | lst xs =>
      have hx : xs.all (D.pd n) = true := h
      show xs.all (D.pd m) = true
      rw [List.all_eq_true] at hx ⊢
      exact fun x hx' => pd_mono n m x (by omega) (hx x hx')
    | non => rfl
    | bl b => rfl
    | int i => rfl
    | str x => rfl
    | scr _ => simp [D.pd] at h
    | dk _ _ => simp [D.pd] at h
    | dt _ _ => simp [D.pd] at h
    | own _ => simp [D.pd] at h
@[simp] theorem ev_eqII (i j : Int) : eqD (.int i) (.int j) = some (.bl (decide (i = j))) := by
  unfold eqD D.eqv
  simp [D.pd, D.toPy, PyData.eqv]
  rfl
@[simp] theorem ev_neII (i j : Int) : neD (.int i) (.int j) = some (.bl (!decide (i = j))) := by
  unfold neD D.eqv
  simp [D.pd, D.toPy, PyData.eqv]
  rfl
@[simp] theorem ev_eqSS (x y : Str) : eqD (.str x) (.str y) = some (.bl (decide (x = y))) := by
  unfold eqD D.eqv
  simp [D.pd, D.toPy, PyData.eqv]
  rfl
@[simp] theorem ev_nil : eqD (.lst []) (.lst []) = some (.bl true) := by
  unfold eqD D.eqv
  simp [D.pd, D.toPy, D.toPyA, PyData.eqv, PyData.eqvAll]
/-! ### _law_sort -/
def srtI (d : D) : Int := match d with
  | .non => 0
  | .bl _ => 1
  | .int _ => 2
  | .str _ => 3
  | .tup _ => 4
  | .lst _ => 5
  | _ => 6
theorem sort_spec (d : D) (h : D.pd 60 d = true) (μ : Store) : g__law_sort [d] μ = .ok (.int (srtI d)) μ := by
  unfold g__law_sort F__law_sort
  cases d with
  | scr _ => simp [D.pd] at h
  | dk _ _ => simp [D.pd] at h
  | dt _ _ => simp [D.pd] at h
  | own _ => simp [D.pd] at h
  | _ => simp [isN, D.isNon, isiD, Ty.has, srtI]
end K77
set_option Elab.async false
set_option linter.all false
set_option maxRecDepth 100000
set_option maxHeartbeats 2000000
namespace K77
open PySem DC
theorem in45 (s : Int) : inSq false (.int s) (.tup [.int 4, .int 5]) = some (.bl (decide (s = 4 ∨ s = 5))) := by
  have e : inSq false (.int s) (.tup [.int 4, .int 5]) = some (.bl ((4 : Int) == s || (5 : Int) == s)) := by
    unfold inSq
    simp [D.flat, D.eqv, D.toPy, PyData.eqv]
  rw [e]
  by_cases h : s = 4
  · subst h; rfl
  · by_cases h2 : s = 5
    · subst h2; rfl
    · have e1 : ((4 : Int) == s) = false := beq_eq_false_iff_ne.mpr fun z => h z.symm
      have e2 : ((5 : Int) == s) = false := beq_eq_false_iff_ne.mpr fun z => h2 z.symm
      rw [e1, e2, decide_eq_false (by omega)]
      rfl
theorem zip_self (ds : List D) : ∀ x, x ∈ List.zipWith pairD ds ds → ∃ d, d ∈ ds ∧ x = .tup [d, d] := by
  induction ds with
  | nil => intro x h; cases h
  | cons d ds ih =>
    intro x h
    rcases List.mem_cons.mp (show x ∈ pairD d d :: List.zipWith pairD ds ds from h) with e | h
    · exact ⟨d, by simp, e⟩
    · obtain ⟨d', h1, h2⟩ := ih x h
      exact ⟨d', List.mem_cons_of_mem _ h1, h2⟩
theorem filter_ff {α : Type} (l : List α) : l.filter (fun _ => false) = [] := by
  induction l with
  | nil => rfl
  | cons a l ih => rw [List.filter_cons_of_neg (by decide), ih]
/-- lists nowhere too long -/
def lenB : Nat → D → Bool
  | 0, _ => true
  | n + 1, d => match d with
    | .tup xs => decide (xs.length ≤ 1000000) && xs.all (lenB n)
    | .lst xs => decide (xs.length ≤ 1000000) && xs.all (lenB n)
    | _ => true
theorem like_seq {n : Nat} {ds : List D} {μ : Store} (ih : ∀ d, D.pd n d = true → lenB n d = true → g__law_like n [d, d] μ = .ok (.bl true) μ) (hp : ds.all (D.pd n) = true) (hl : ds.length ≤ 1000000) (hb : ds.all (lenB n) = true) (c : List D → D) (hc : ∀ xs ys, wZipA (lCons (xVar 0) (lCons (xVar 1) lNil)) [.fz (c xs), .fz (c ys), .fz (.int (srtI (c xs))), .no, .no] μ = .ok (List.zipWith pairD xs ys) μ) :
    xLc (wZipA (lCons (xVar 0) (lCons (xVar 1) lNil))) (gT (gC (gN 3) (gC (gN 4) gE))) (bNot (bVal (xCall (g__law_like n) (lCons (xVar 3) (lCons (xVar 4) lNil))))) (xC (.int 1)) [3, 4] [.fz (c ds), .fz (c ds), .fz (.int (srtI (c ds))), .no, .no] μ = .ok (.lst []) μ := by
  rw [ev_lc (p := fun _ => false) (h := fun x => x) (hc ds ds) rfl (by rw [List.length_zipWith]; omega) fun d hd => ?_, filter_ff]
  · rfl
  · obtain ⟨x, hx, rfl⟩ := zip_self ds d hd
    refine ⟨_, rfl, ?_, fun h => by cases h⟩
    simp [wipeE, ih x (List.all_eq_true.mp hp x hx) (List.all_eq_true.mp hb x hx)]
theorem like_refl : ∀ (n : Nat), n ≤ 60 → ∀ (d : D) (μ : Store), D.pd n d = true → lenB n d = true → g__law_like n [d, d] μ = .ok (.bl true) μ
  | 0, _, d, μ, h, _ => by simp [D.pd] at h
  | n + 1, hn, d, μ, h, hb => by
    have h60 := pd_mono _ 60 d hn h
    have hs := sort_spec d h60 μ
    have he : eqD d d = some (.bl true) := by
      unfold eqD
      rw [h60, eqv_refl 60 d h60]
      rfl
    unfold g__law_like F__law_like
    cases d with
    | scr _ => simp [D.pd] at h
    | dk _ _ => simp [D.pd] at h
    | dt _ _ => simp [D.pd] at h
    | own _ => simp [D.pd] at h
    | tup ds =>
      have hb' : (decide (ds.length ≤ 1000000) && ds.all (lenB n)) = true := hb
      rw [Bool.and_eq_true, decide_eq_true_eq] at hb'
      have hq := like_seq (n := n) (ds := ds) (μ := μ) (fun d h hb => like_refl n (by omega) d μ h hb) h hb'.1 hb'.2 D.tup fun xs ys => by simp [wZipA, lCons, lNil]
      have : srtI (.tup ds) = 4 := rfl
      rw [this] at hq hs
      simp [hs, in45, lenD, hq]
    | lst ds =>
      have hb' : (decide (ds.length ≤ 1000000) && ds.all (lenB n)) = true := hb
      rw [Bool.and_eq_true, decide_eq_true_eq] at hb'
      have hq := like_seq (n := n) (ds := ds) (μ := μ) (fun d h hb => like_refl n (by omega) d μ h hb) h hb'.1 hb'.2 D.lst fun xs ys => by simp [wZipA, lCons, lNil]
      have : srtI (.lst ds) = 5 := rfl
      rw [this] at hq hs
      simp [hs, in45, lenD, hq]
    | non => simp [hs, in45, srtI, he]
    | bl b => simp [hs, in45, srtI, he]
    | int b => simp [hs, in45, srtI, he]
    | str b => simp [hs, in45, srtI, he]
end K77
set_option Elab.async false
set_option linter.all false
set_option maxRecDepth 100000
set_option maxHeartbeats 2000000
namespace K77
open PySem DC
/-! ### rows -/
def sg (b : Bool) : Nat := if b then 117 else 100
def rowS (bs : List Bool) : Str := ⟨(bs.map sg).toArray⟩
theorem rowS_nil : (("" : Str)) = rowS [] := by decide +kernel
theorem rowS_u : (("u" : Str)) = rowS [true] := by decide +kernel
theorem rowS_d : (("d" : Str)) = rowS [false] := by decide +kernel
theorem rowS_ud : (("ud" : Str)) = rowS [true, false] := by decide +kernel
theorem rowS_app (a b : List Bool) : rowS a ++ rowS b = rowS (a ++ b) := by
  show (⟨(a.map sg).toArray ++ (b.map sg).toArray⟩ : Str) = ⟨((a ++ b).map sg).toArray⟩
  rw [List.map_append]
  simp
theorem rowS_len (bs : List Bool) : (rowS bs).length = bs.length := by
  show (bs.map sg).toArray.size = bs.length
  simp
theorem rowS_inj : ∀ {a b : List Bool}, rowS a = rowS b → a = b := by
  intro a b h
  have h1 : (a.map sg).toArray = (b.map sg).toArray := congrArg Str.cps h
  have h2 : a.map sg = b.map sg := by simpa using h1
  have hs : ∀ x y, sg x = sg y → x = y := by decide
  exact List.map_inj_right hs |>.mp h2
theorem strD_row (bs : List Bool) : strD (rowS bs) = bs.map fun b => .str (rowS [b]) := by
  unfold strD rowS
  simp [sg]
theorem eq_u (b : Bool) : eqD (.str (rowS [b])) (.str "u") = some (.bl b) := by
  rw [ev_eqSS, rowS_u]
  cases b with
  | true => simp
  | false =>
    have : ¬ rowS [false] = rowS [true] := fun h => by have := rowS_inj h; simp at this
    simp [this]
theorem add_row {a b : List Bool} (h : a.length + b.length ≤ 1000000) : addD (.str (rowS a)) (.str (rowS b)) = some (.str (rowS (a ++ b))) := by
  show (if Nat.ble ((rowS a).length + (rowS b).length) 1000000 = true then some (D.str (rowS a ++ rowS b)) else none) = _
  rw [rowS_len, rowS_len, if_pos (Nat.ble_eq.mpr h), rowS_app]
theorem some_ud {μ : Store} (h : CupOk μ) : ∃ b μ', g__law_some [.own 0, .str "ud"] μ = .ok (.str (rowS [b])) μ' ∧ CupOk μ' := by
  obtain ⟨v, μ', e, c, v0, v1⟩ := roll_spec (many := 2) h (by omega) (by omega)
  refine ⟨decide (v = 0), μ', ?_, c⟩
  unfold g__law_some F__law_some
  rw [rowS_ud]
  have el : lenD [.str (rowS [true, false])] = some (.int 2) := rfl
  simp [el, e]
  have : v = 0 ∨ v = 1 := by omega
  rcases this with rfl | rfl
  · rfl
  · rfl
end K77
set_option Elab.async false
set_option linter.all false
set_option maxRecDepth 100000
set_option maxHeartbeats 2000000
namespace K77
open PySem DC
/-! ### several names at once, evaluated -/
@[simp] theorem ev_mNil {ρ : DC.Env} {μ : Store} : mNil ρ μ = .ok [] μ := rfl
@[simp] theorem ev_mVal {f : XD} {fs : XM} {ρ : DC.Env} {μ : Store} : mVal f fs ρ μ = (f ρ μ).bind fun d μ1 => (fs ρ μ1).bind fun ds μ2 => .ok ((false, d) :: ds) μ2 := rfl
@[simp] theorem ev_mNew {f : XD} {fs : XM} {ρ : DC.Env} {μ : Store} : mNew f fs ρ μ = (f ρ μ).bind fun d μ1 => (fs ρ μ1).bind fun ds μ2 => .ok ((true, d) :: ds) μ2 := rfl
def parE (is : List Nat) (ds : List (Bool × D)) (ρ : DC.Env) (μ : Store) : SRes := match setAll is ds ρ with
  | some ρ' => .nx ρ' μ
  | none => .fail
@[simp] theorem ev_par {fs : XM} {is : List Nat} {ρ : DC.Env} {μ : Store} : sPar is fs ρ μ = (fs ρ μ).st ρ fun ds μ' => parE is ds ρ μ' := rfl
@[simp] theorem parE_nil (ρ : DC.Env) (μ : Store) : parE [] [] ρ μ = .nx ρ μ := rfl
@[simp] theorem parE_cons (i : Nat) (is : List Nat) (b : Bool) (d : D) (ds : List (Bool × D)) (ρ : DC.Env) (μ : Store) : parE (i :: is) ((b, d) :: ds) ρ μ = parE is ds (ρ.set i (if b then .ow d else .fz d)) μ := rfl
@[simp] theorem ev_min (i j : Int) : min2D [.int i, .int j] = some (.int (if j < i then j else i)) := rfl
/-! ### plans -/
abbrev Plan := List (Int × Int)
def planD (p : Plan) : D := .tup (p.map pairI)
def PairOk (p : Int × Int) : Prop := -1 ≤ p.1 ∧ p.1 < p.2 ∧ p.2 ≤ 41
structure PlanOk (p : Plan) : Prop where
  pos : 0 < p.length
  le : p.length ≤ 40
  ok : ∀ x, x ∈ p → PairOk x
  last : ∀ x, p.getLast? = some x → x.2 = x.1 + 1
theorem rgOk_int {i : Int} (h : -1000000 ≤ i) (h2 : i ≤ 1000000) : rgOk i = true := by
  unfold rgOk
  exact Nat.ble_eq.mpr (by omega)
def lowOk (low : Int) (i : Nat) : Prop := -1 ≤ low ∧ low ≤ i
/-- the three branches on way, then the append -/
theorem plan_step {μ : Store} {most many way low : Int} {ps : Plan} {s : Sl} {i : Nat} (hc : CupOk μ) (hl : lowOk low i) (hi : i < 40) (hps : ps.length = i) (hw : 0 ≤ way) (hw3 : way < 3) :
    ∃ low' h μ', L__law_plan_1 [.fz (.own 0), .fz (.int most), .fz (.int many), .fz (.int way), .ow (.lst (ps.map pairI)), .fz (.int low), .fz (.int (1 + (i : Nat)))] μ =
      .nx [.fz (.own 0), .fz (.int most), .fz (.int many), .fz (.int way), .ow (.lst ((ps ++ [(low', h)]).map pairI)), .fz (.int low'), .fz (.int (1 + (i : Nat)))] μ' ∧ CupOk μ' ∧ lowOk low' (i + 1) ∧ PairOk (low', h) ∧ (many = 1 + (i : Nat) → h = low' + 1) := by
  -- the append at the end
  have fin : ∀ (low' : Int) (μ1 : Store), CupOk μ1 → -1 ≤ low' → low' ≤ i → ∃ h μ', sApp 4 (xTup (lCons (xVar 5) (lCons (xIf (bVal (xBin ltD (xVar 6) (xVar 2))) (xCb min2D (lCons (xC (.int 41)) (lCons (xBin addD (xBin addD (xVar 5) (xC (.int 2))) (xCall g__law_roll (lCons (xVar 0) (lCons (xC (.int 4)) lNil)))) lNil))) (xBin addD (xVar 5) (xC (.int 1)))) lNil)))
      [.fz (.own 0), .fz (.int most), .fz (.int many), .fz (.int way), .ow (.lst (ps.map pairI)), .fz (.int low'), .fz (.int (1 + (i : Nat)))] μ1 =
      .nx [.fz (.own 0), .fz (.int most), .fz (.int many), .fz (.int way), .ow (.lst ((ps ++ [(low', h)]).map pairI)), .fz (.int low'), .fz (.int (1 + (i : Nat)))] μ' ∧ CupOk μ' ∧ PairOk (low', h) ∧ (many = 1 + (i : Nat) → h = low' + 1) := by
    intro low' μ1 hc1 hl1 hl2
    by_cases hm : 1 + (i : Int) < many
    · obtain ⟨v, μ2, e, c, v0, v1⟩ := roll_spec (many := 4) hc1 (by omega) (by omega)
      refine ⟨if low' + 2 + v < 41 then low' + 2 + v else 41, μ2, ?_, c, ?_, by omega⟩
      · rw [ev_app (ds := ps.map pairI) (d := pairI (low', if low' + 2 + v < 41 then low' + 2 + v else 41)) (μ' := μ2) rfl (by simp [hm, e, pairI]) (by rw [List.length_map]; omega)]
        simp
      · unfold PairOk
        simp only
        split <;> omega
    · refine ⟨low' + 1, μ1, ?_, hc1, ?_, by omega⟩
      · rw [ev_app (ds := ps.map pairI) (d := pairI (low', low' + 1)) (μ' := μ1) rfl (by simp [hm, pairI]) (by rw [List.length_map]; omega)]
        simp
      · unfold PairOk
        simp only
        omega
  unfold lowOk at hl
  have w3 : way = 0 ∨ way = 1 ∨ way = 2 := by omega
  rcases w3 with rfl | rfl | rfl
  · obtain ⟨v, μ2, e, c, v0, v1⟩ := roll_spec (many := 3) hc (by omega) (by omega)
    have hle : (if (low + if v = 0 then (1:Int) else 0) < (i : Int) then low + (if v = 0 then (1:Int) else 0) else (i : Int)) ≤ i ∧ -1 ≤ (if (low + if v = 0 then (1:Int) else 0) < (i : Int) then low + (if v = 0 then (1:Int) else 0) else (i : Int)) := by
      split <;> split <;> omega
    obtain ⟨h, μ', e2, c2, p2, l2⟩ := fin _ μ2 c hle.2 hle.1
    refine ⟨_, h, μ', ?_, c2, ⟨hle.2, by omega⟩, p2, l2⟩
    have es : (1 + (i : Int) - 1) = i := by omega
    by_cases hv : v = 0
    · simp only [hv, if_true] at e2 ⊢
      simp [e, hv, es, e2]
    · simp only [hv, if_false, Int.add_zero] at e2 ⊢
      simp [e, hv, es, e2]
  · obtain ⟨v, μ2, e, c, v0, v1⟩ := roll_spec (many := 1 + (i : Int) + 1) hc (by omega) (by omega)
    obtain ⟨h, μ', e2, c2, p2, l2⟩ := fin (v - 1) μ2 c (by omega) (by omega)
    refine ⟨_, h, μ', ?_, c2, ⟨by omega, by omega⟩, p2, l2⟩
    simp [e, e2]
  · by_cases h3 : 3 < 1 + (i : Int)
    · have hd := ev_div (i := 1 + (i : Int)) (j := 2) (by omega) (by omega)
      obtain ⟨h, μ', e2, c2, p2, l2⟩ := fin ((1 + (i : Int)) / 2 - 2) μ hc (by omega) (by omega)
      refine ⟨_, h, μ', ?_, c2, ⟨by omega, by omega⟩, p2, l2⟩
      simp [h3, hd, e2]
    · obtain ⟨h, μ', e2, c2, p2, l2⟩ := fin (-1) μ hc (by omega) (by omega)
      refine ⟨_, h, μ', ?_, c2, ⟨by omega, by omega⟩, p2, l2⟩
      simp [h3, e2]
theorem rangeD_at {lo : Int} {n i : Nat} {d : D} (h : (rangeD lo n)[i]? = some d) : i < n ∧ d = .int (lo + (i : Nat)) := by
  have hl : i < n := by
    have := (List.getElem?_eq_some_iff.mp h).1
    rw [rangeD_len] at this; exact this
  rw [rangeD_get hl] at h
  exact ⟨hl, (Option.some.inj h).symm⟩
theorem plan_spec {μ : Store} {most : Int} (hc : CupOk μ) (h0 : 0 < most) (h1 : most ≤ 40) : ∃ p μ', g__law_plan [.own 0, .int most] μ = .ok (planD p) μ' ∧ CupOk μ' ∧ PlanOk p ∧ (p.length : Int) ≤ most := by
  obtain ⟨v, μ1, e1, c1, v0, v1⟩ := roll_spec (many := most) hc h0 (by omega)
  obtain ⟨way, μ2, e2, c2, w0, w1⟩ := roll_spec (many := 3) c1 (by omega) (by omega)
  obtain ⟨n, rfl⟩ := Int.eq_ofNat_of_zero_le v0
  have hn : (1 + (n : Int) + 1 - 1).toNat = n + 1 := by omega
  have hi : iRg2 (lCons (xC (.int 1)) (lCons (xBin addD (xVar 2) (xC (.int 1))) lNil)) [.fz (.own 0), .fz (.int most), .fz (.int (1 + (n : Nat))), .fz (.int way), .ow (.lst []), .fz (.int (-1)), .no] μ2 = .ok (rangeD 1 (n + 1)) μ2 := by
    unfold iRg2
    have r1 := rgOk_int (i := 1) (by omega) (by omega)
    have r2 := rgOk_int (i := 1 + (n : Int) + 1) (by omega) (by omega)
    have hn2 : (1 + (n : Int)).toNat = n + 1 := by omega
    simp [r1, r2, hn, hn2]
  obtain ⟨ρ', μ', e3, ps, low, s, hρ, hps, hl, hok, hlast, c3⟩ := forL_rel (tg := gN 6) (F := L__law_plan_1) (ds := rangeD 1 (n + 1)) (ρ := [.fz (.own 0), .fz (.int most), .fz (.int (1 + (n : Nat))), .fz (.int way), .ow (.lst []), .fz (.int (-1)), .no]) (μ := μ2)
    (fun i ρ μ => ∃ (ps : Plan) (low : Int) (s : Sl), ρ = [.fz (.own 0), .fz (.int most), .fz (.int (1 + (n : Nat))), .fz (.int way), .ow (.lst (ps.map pairI)), .fz (.int low), s] ∧ ps.length = i ∧ lowOk low i ∧ (∀ x, x ∈ ps → PairOk x) ∧ (i = n + 1 → ∀ x, ps.getLast? = some x → x.2 = x.1 + 1) ∧ CupOk μ)
    ⟨[], -1, .no, rfl, rfl, ⟨by omega, by omega⟩, fun x hx => (by cases hx), fun h => (by omega), c2⟩
    (fun i d ρ μ hd ⟨ps, low, s, hρ, hps, hl, hok, _, hc⟩ => by
      obtain ⟨hin, rfl⟩ := rangeD_at hd
      subst hρ
      obtain ⟨low', h, μ3, e4, c4, l4, p4, z4⟩ := plan_step (most := most) (many := 1 + (n : Nat)) (s := s) hc hl (by omega) hps w0 w1
      refine ⟨_, _, μ3, rfl, e4, ps ++ [(low', h)], low', _, rfl, by simp [hps], l4, fun x hx => ?_, fun hh x hx => ?_, c4⟩
      · rcases List.mem_append.mp hx with hx | hx
        · exact hok x hx
        · rw [List.mem_singleton.mp hx]; exact p4
      · rw [List.getLast?_append] at hx
        simp at hx
        rw [← hx]
        exact z4 (by omega))
  rw [rangeD_len] at hps hlast
  refine ⟨ps, μ', ?_, c3, ⟨by omega, by omega, hok, hlast rfl⟩, by omega⟩
  subst hρ
  unfold g__law_plan F__law_plan
  simp [e1, e2, hi, e3, frzE, tupleD, planD]
end K77
set_option Elab.async false
set_option linter.all false
set_option maxRecDepth 100000
set_option maxHeartbeats 2000000
namespace K77
open PySem DC
/-! ### layers -/
def intsD (a : List Int) : D := .lst (a.map D.int)
def stepH (a : List Int) : List Int := List.zipWith (· + ·) (a ++ [0]) (0 :: a)
def inB (l h : Int) (u : Nat) : Bool := decide (l < (u : Int)) && decide ((u : Int) < h)
def openL (l h : Int) (a : List Int) : List Int := a.mapIdx fun u w => if inB l h u then w else 0
def endL (l h : Int) (a : List Int) : List Int := a.mapIdx fun u w => if inB l h u then 0 else w
theorem stepH_len (a : List Int) : (stepH a).length = a.length + 1 := by
  unfold stepH
  simp
theorem openL_len (l h : Int) (a : List Int) : (openL l h a).length = a.length := by unfold openL; simp
theorem endL_len (l h : Int) (a : List Int) : (endL l h a).length = a.length := by unfold endL; simp
def opensT : Plan → List Int → List (List Int)
  | [], _ => []
  | (l, h) :: p, a => openL l h (stepH a) :: opensT p (openL l h (stepH a))
def endsT : Plan → List Int → List (List Int)
  | [], _ => []
  | (l, h) :: p, a => endL l h (stepH a) :: endsT p (openL l h (stepH a))
theorem enum_map {f : Nat → Int → Int} {g : D → D} (hg : ∀ (i : Nat) (w : Int), g (.tup [.int (i : Nat), .int w]) = .int (f i w)) (a : List Int) : (enumD (a.map D.int)).map g = (a.mapIdx f).map D.int := by
  apply List.ext_getElem?
  intro i
  unfold enumD
  rw [List.getElem?_map, List.getElem?_mapIdx, List.getElem?_map, List.getElem?_map, List.getElem?_mapIdx]
  cases a[i]? with
  | none => rfl
  | some w =>
    show some (g _) = _
    rw [hg]
    rfl
theorem enum_mem {a : List Int} {d : D} (h : d ∈ enumD (a.map D.int)) : ∃ (i : Nat) (w : Int), d = .tup [.int (i : Nat), .int w] := by
  obtain ⟨i, hi⟩ := List.getElem?_of_mem h
  unfold enumD at hi
  rw [List.getElem?_mapIdx, List.getElem?_map] at hi
  cases e : a[i]? with
  | none => rw [e] at hi; cases hi
  | some w => rw [e] at hi; exact ⟨i, w, (Option.some.inj hi).symm⟩
theorem zip_map {g : D → D} (hg : ∀ x y : Int, g (.tup [.int x, .int y]) = .int (x + y)) : ∀ (a b : List Int), (List.zipWith pairD (a.map D.int) (b.map D.int)).map g = (List.zipWith (· + ·) a b).map D.int
  | [], b => by simp
  | _ :: _, [] => by simp
  | x :: a, y :: b => by
    show g (pairD (.int x) (.int y)) :: (List.zipWith pairD (a.map D.int) (b.map D.int)).map g = .int (x + y) :: (List.zipWith (· + ·) a b).map D.int
    rw [zip_map hg a b, show g (pairD (.int x) (.int y)) = .int (x + y) from hg x y]
theorem zip_mem {d : D} : ∀ {a b : List Int}, d ∈ List.zipWith pairD (a.map D.int) (b.map D.int) → ∃ x y : Int, d = .tup [.int x, .int y]
  | [], b, h => by simp at h
  | _ :: _, [], h => by simp at h
  | x :: a, y :: b, h => by
    rcases List.mem_cons.mp (show d ∈ pairD (.int x) (.int y) :: List.zipWith pairD (a.map D.int) (b.map D.int) from h) with e | h
    · exact ⟨x, y, e⟩
    · exact zip_mem h
theorem addL_ok {xs ys : List D} (h : xs.length + ys.length ≤ 1000000) : addD (.lst xs) (.lst ys) = some (.lst (xs ++ ys)) := by
  show (if Nat.ble (xs.length + ys.length) 1000000 = true then some (D.lst (xs ++ ys)) else none) = _
  rw [if_pos (Nat.ble_eq.mpr h)]
def sumF : D → D
  | .tup [.int x, .int y] => .int (x + y)
  | _ => .non
section
variable {pl : D} {os es : List D} {l h : Int} {a : List Int} {s5 s6 : Sl} {μ : Store}
theorem lay_c1 (ha : a.length ≤ 1000) : C_layers_of_plan_1 [.fz pl, .ow (.lst os), .ow (.lst es), .fz (.int l), .fz (.int h), .fz (intsD a), s6, .no, .no, .no, .no] μ = .ok (intsD (stepH a)) μ := by
  have e0 : a.map D.int ++ [D.int 0] = (a ++ [0]).map D.int := by simp
  have e1 : D.int 0 :: a.map D.int = (0 :: a).map D.int := by simp
  have hs : wZipA (lCons (xBin addD (xVar 5) (xLst (lCons (xC (.int 0)) lNil))) (lCons (xBin addD (xLst (lCons (xC (.int 0)) lNil)) (xVar 5)) lNil)) [.fz pl, .ow (.lst os), .ow (.lst es), .fz (.int l), .fz (.int h), .fz (intsD a), s6, .no, .no, .no, .no] μ
      = .ok (List.zipWith pairD ((a ++ [0]).map D.int) ((0 :: a).map D.int)) μ := by
    unfold wZipA
    have h1 := addL_ok (xs := a.map D.int) (ys := [.int 0]) (by simp; omega)
    have h2 := addL_ok (xs := [.int 0]) (ys := a.map D.int) (by simp; omega)
    simp [intsD, h1, h2]
  refine (ev_lcT (h := sumF) hs rfl (by simp; omega) fun d hd => ?_).trans ?_
  · obtain ⟨x, y, rfl⟩ := zip_mem hd
    exact ⟨_, rfl, by simp [wipeE, sumF]⟩
  · rw [zip_map (fun x y => rfl)]
    rfl
def inF (l h : Int) (k : Bool) : D → D
  | .tup [.int u, .int w] => if (decide (l < u) && decide (u < h)) = k then .int w else .int 0
  | _ => .non
theorem lay_c2 (ha : a.length ≤ 1000) : C_layers_of_plan_2 [.fz pl, .ow (.lst os), .ow (.lst es), .fz (.int l), .fz (.int h), s5, .fz (intsD a), .no, .no, .no, .no] μ = .ok (intsD (openL l h a)) μ := by
  have hs : wEnumA (xVar 6) [.fz pl, .ow (.lst os), .ow (.lst es), .fz (.int l), .fz (.int h), s5, .fz (intsD a), .no, .no, .no, .no] μ = .ok (enumD (a.map D.int)) μ := by
    unfold wEnumA
    simp [intsD]
  refine (ev_lcT (h := inF l h true) hs rfl (by rw [enumD_len]; simp; omega) fun d hd => ?_).trans ?_
  · obtain ⟨i, w, rfl⟩ := enum_mem hd
    refine ⟨_, rfl, ?_⟩
    by_cases h1 : l < (i : Int) <;> by_cases h2 : (i : Int) < h <;> simp [wipeE, inF, h1, h2]
  · rw [enum_map (f := fun u w => if inB l h u then w else 0) fun i w => ?_]
    · rfl
    · unfold inF inB
      by_cases h1 : l < (i : Int) <;> by_cases h2 : (i : Int) < h <;> simp [h1, h2]
theorem lay_c3 (ha : a.length ≤ 1000) : C_layers_of_plan_3 [.fz pl, .ow (.lst os), .ow (.lst es), .fz (.int l), .fz (.int h), s5, .fz (intsD a), .no, .no, .no, .no] μ = .ok (intsD (endL l h a)) μ := by
  have hs : wEnumA (xVar 6) [.fz pl, .ow (.lst os), .ow (.lst es), .fz (.int l), .fz (.int h), s5, .fz (intsD a), .no, .no, .no, .no] μ = .ok (enumD (a.map D.int)) μ := by
    unfold wEnumA
    simp [intsD]
  refine (ev_lcT (h := inF l h false) hs rfl (by rw [enumD_len]; simp; omega) fun d hd => ?_).trans ?_
  · obtain ⟨i, w, rfl⟩ := enum_mem hd
    refine ⟨_, rfl, ?_⟩
    by_cases h1 : l < (i : Int) <;> by_cases h2 : (i : Int) < h <;> simp [wipeE, inF, h1, h2]
  · rw [enum_map (f := fun u w => if inB l h u then 0 else w) fun i w => ?_]
    · rfl
    · unfold inF inB
      by_cases h1 : l < (i : Int) <;> by_cases h2 : (i : Int) < h <;> simp [h1, h2]
theorem lay_step (ha : a.length ≤ 999) (ho : os.length ≤ 1000) (he : es.length ≤ 1000) : L_layers_of_plan_4 [.fz pl, .ow (.lst (os ++ [intsD a])), .ow (.lst es), .fz (.int l), .fz (.int h), s5, s6, .no, .no, .no, .no] μ =
    .nx [.fz pl, .ow (.lst (os ++ [intsD a] ++ [intsD (openL l h (stepH a))])), .ow (.lst (es ++ [intsD (endL l h (stepH a))])), .fz (.int l), .fz (.int h), .fz (intsD a), .fz (intsD (stepH a)), .no, .no, .no, .no] μ := by
  have e0 : xIxO 1 (xUn negD (xC (.int 1))) [.fz pl, .ow (.lst (os ++ [intsD a])), .ow (.lst es), .fz (.int l), .fz (.int h), s5, s6, .no, .no, .no, .no] μ = .ok (intsD a) μ := by
    show (Res.ofO (L2.atI (os ++ [intsD a]) (-1)) μ : Res D) = _
    rw [L2.atI_last]
    rfl
  have hl : (stepH a).length ≤ 1000 := by rw [stepH_len]; omega
  simp only [ev_seq, ev_asg, e0, ev_st_ok, List.set_cons_succ, List.set_cons_zero, seq_nx]
  rw [lay_c1 (by omega)]
  simp only [ev_st_ok, List.set_cons_succ, List.set_cons_zero, seq_nx, ev_seq]
  rw [ev_app (ds := os ++ [intsD a]) (d := intsD (openL l h (stepH a))) (μ' := μ) rfl (lay_c2 hl) (by simp; omega)]
  simp only [List.set_cons_succ, List.set_cons_zero, seq_nx]
  rw [ev_app (ds := es) (d := intsD (endL l h (stepH a))) (μ' := μ) rfl (lay_c3 hl) (by omega)]
  simp only [List.set_cons_succ, List.set_cons_zero]
end
theorem opensT_len : ∀ (p : Plan) (a : List Int), (opensT p a).length = p.length
  | [], _ => rfl
  | (l, h) :: p, a => by simp [opensT, opensT_len p]
theorem endsT_len : ∀ (p : Plan) (a : List Int), (endsT p a).length = p.length
  | [], _ => rfl
  | (l, h) :: p, a => by simp [endsT, endsT_len p]
theorem lay_loop {pl : D} {μ : Store} : ∀ (p : Plan) (a : List Int) (os es : List D) (s3 s4 s5 s6 : Sl), a.length + p.length ≤ 900 → os.length + p.length ≤ 900 → es.length + p.length ≤ 900 → ∃ s3' s4' s5' s6',
    sForL (gT (gC (gN 3) (gC (gN 4) gE))) L_layers_of_plan_4 (p.map pairI) [.fz pl, .ow (.lst (os ++ [intsD a])), .ow (.lst es), s3, s4, s5, s6, .no, .no, .no, .no] μ =
    .nx [.fz pl, .ow (.lst (os ++ [intsD a] ++ (opensT p a).map intsD)), .ow (.lst (es ++ (endsT p a).map intsD)), s3', s4', s5', s6', .no, .no, .no, .no] μ
  | [], a, os, es, s3, s4, s5, s6, _, _, _ => ⟨s3, s4, s5, s6, by simp [opensT, endsT]⟩
  | (l, h) :: p, a, os, es, s3, s4, s5, s6, h1, h2, h3 => by
    simp only [List.length_cons] at h1 h2 h3
    have hl : (openL l h (stepH a)).length = a.length + 1 := by rw [openL_len, stepH_len]
    obtain ⟨s3', s4', s5', s6', e⟩ := lay_loop (pl := pl) (μ := μ) p (openL l h (stepH a)) (os ++ [intsD a]) (es ++ [intsD (endL l h (stepH a))]) (.fz (.int l)) (.fz (.int h)) (.fz (intsD a)) (.fz (intsD (stepH a))) (by omega) (by simp; omega) (by simp; omega)
    refine ⟨s3', s4', s5', s6', ?_⟩
    rw [List.map_cons, forL_cons (ρ1 := [.fz pl, .ow (.lst (os ++ [intsD a])), .ow (.lst es), .fz (.int l), .fz (.int h), s5, s6, .no, .no, .no, .no]) rfl (lay_step (by omega) (by omega) (by omega)), e]
    simp [opensT, endsT]
theorem layers_spec {p : Plan} (hp : p.length ≤ 40) (μ : Store) : g_layers_of_plan [planD p] μ = .ok (.tup [.lst (([1] :: opensT p [1]).map intsD), .lst ((endsT p [1]).map intsD)]) μ := by
  obtain ⟨s3, s4, s5, s6, e⟩ := lay_loop (pl := planD p) (μ := μ) p [1] [] [] .no .no .no .no (by simp; omega) (by simp; omega) (by simp; omega)
  unfold g_layers_of_plan F_layers_of_plan
  have e' := e
  simp only [List.nil_append, intsD, List.map_cons, List.map_nil] at e'
  simp [planD] at e' ⊢
  simp [e', frzE, intsD]
end K77
set_option Elab.async false
set_option linter.all false
set_option maxRecDepth 100000
set_option maxHeartbeats 2000000
namespace K77
open PySem DC
/-! ### which values are plans -/
def isIntB : D → Bool
  | .int _ => true
  | _ => false
def wholeB (lo hi : Int) : D → Bool
  | .int i => decide (lo ≤ i) && decide (i ≤ hi)
  | _ => false
theorem not_dt {n : Nat} {d : D} (h : D.pd n d = true) : ∀ ks vs, d ≠ .dt ks vs := fun ks vs e => by
  subst e
  cases n <;> simp [D.pd] at h
theorem is_integer_spec {n : Nat} {d : D} (h : D.pd n d = true) (μ : Store) : g_is_integer [d] μ = .ok (.bl (isIntB d)) μ := by
  have := not_dt h
  unfold g_is_integer F_is_integer
  cases d with
  | dt ks vs => exact absurd rfl (this _ _)
  | _ => simp [isiD, Ty.has, isIntB]
theorem is_whole_spec {n : Nat} {d : D} {lo hi : Int} (h : D.pd n d = true) (μ : Store) : g_is_whole [d, .int lo, .int hi] μ = .ok (.bl (wholeB lo hi d)) μ := by
  have hi' := is_integer_spec h μ
  unfold g_is_whole F_is_whole
  cases d with
  | int i =>
    by_cases h1 : lo ≤ i
    · simp [hi', isIntB, wholeB, h1]
    · simp [hi', isIntB, wholeB, h1]
  | _ => simp [hi', isIntB, wholeB]
def tupB (lo hi : Int) : D → Bool
  | .tup xs => decide (lo ≤ (xs.length : Int)) && decide ((xs.length : Int) ≤ hi)
  | _ => false
theorem tupB_tup (lo hi : Int) (xs : List D) : tupB lo hi (.tup xs) = (decide (lo ≤ (xs.length : Int)) && decide ((xs.length : Int) ≤ hi)) := rfl
theorem is_tuple_spec {n : Nat} {d : D} {lo hi : Int} (h : D.pd n d = true) (μ : Store) : g_is_tuple_of [d, .int lo, .int hi] μ = .ok (.bl (tupB lo hi d)) μ := by
  have := not_dt h
  unfold g_is_tuple_of F_is_tuple_of
  cases d with
  | dt ks vs => exact absurd rfl (this _ _)
  | tup xs =>
    by_cases h1 : lo ≤ (xs.length : Int)
    · simp [isiD, Ty.has, tupB, lenD, h1]
    · simp [isiD, Ty.has, tupB, lenD, h1]
  | _ => simp [isiD, Ty.has, tupB]
def okPairB : D → Bool
  | .tup [.int l, .int h] => decide (-1 ≤ l) && decide (l ≤ 41) && decide (-1 ≤ h) && decide (h ≤ 41) && decide (l < h)
  | _ => false
theorem bounds_c {ds : List D} {n : Nat} (hp : ds.all (D.pd n) = true) (hl : ds.length ≤ 1000) (μ : Store) : C_fits_bounds_1 [.fz (.tup ds), .no] μ = .ok (.lst (ds.map fun d => .bl (wholeB (-1) 41 d))) μ := by
  refine ev_lcT (h := fun d => .bl (wholeB (-1) 41 d)) (ds := ds) (μ' := μ) (by simp) rfl (by omega) fun d hd => ?_
  refine ⟨_, rfl, ?_⟩
  simp [wipeE, is_whole_spec (List.all_eq_true.mp hp d hd)]
theorem bls_bl {f : D → Bool} : ∀ ds : List D, D.bls (ds.map fun d => .bl (f d)) = some (ds.map f)
  | [] => rfl
  | d :: ds => by
    show (D.bls (ds.map fun d => .bl (f d))).map (f d :: ·) = _
    rw [bls_bl ds]
    rfl
theorem all_bl {f : D → Bool} (ds : List D) : allD [.lst (ds.map fun d => .bl (f d))] = some (.bl (ds.all f)) := by
  show (D.bls (ds.map fun d => .bl (f d))).map (fun ns => D.bl (ns.all id)) = _
  rw [bls_bl]
  simp
@[simp] theorem all_two (a b : Bool) : allD [.lst [.bl a, .bl b]] = some (.bl (a && b)) := by cases a <;> cases b <;> rfl
theorem fits_bounds_spec {n : Nat} {d : D} (h : D.pd (n + 1) d = true) (μ : Store) : g_fits_bounds [d] μ = .ok (.bl (okPairB d)) μ := by
  have ht := is_tuple_spec (lo := 2) (hi := 2) h μ
  unfold g_fits_bounds F_fits_bounds
  cases d with
  | tup xs =>
    have hp : xs.all (D.pd n) = true := h
    by_cases hx : xs.length = 2
    · match xs, hx with
      | [x, y], _ =>
        have hc := bounds_c hp (by simp) μ
        simp only [List.map_cons, List.map_nil] at hc
        have e1 : tupB 2 2 (.tup [x, y]) = true := rfl
        rw [e1] at ht
        have i0 : ixS μ (.tup [x, y]) (.int 0) = some x := rfl
        have i1 : ixS μ (.tup [x, y]) (.int 1) = some y := rfl
        cases x with
        | int l =>
          cases y with
          | int k =>
            by_cases h1 : -1 ≤ l <;> by_cases h2 : l ≤ 41 <;> by_cases h3 : -1 ≤ k <;> by_cases h4 : k ≤ 41 <;> simp [ht, hc, okPairB, wholeB, i0, i1, h1, h2, h3, h4]
          | _ => simp [ht, hc, okPairB, wholeB]
        | _ => simp [ht, hc, okPairB, wholeB]
    · have e1 : tupB 2 2 (.tup xs) = false := by
        rw [tupB_tup]
        by_cases h2 : (2 : Int) ≤ (xs.length : Int)
        · rw [decide_eq_true h2, decide_eq_false (by omega)]; rfl
        · rw [decide_eq_false h2]; rfl
      have e2 : okPairB (.tup xs) = false := by
        unfold okPairB
        split
        · rename_i l k e
          cases e
          exact absurd rfl hx
        · rfl
      rw [e1] at ht
      simp [ht, e2]
  | _ => simp [ht, tupB, okPairB]
/-- the last pair ends at one -/
def lastB (ds : List D) : Bool := match ds.getLast? with
  | some (.tup [.int l, .int h]) => decide (h = l + 1)
  | _ => false
def okPlanB : D → Bool
  | .tup ds => decide (1 ≤ ds.length) && decide (ds.length ≤ 40) && ds.all okPairB && lastB ds
  | _ => false
theorem fits_c {ds : List D} {n : Nat} (hp : ds.all (D.pd (n + 1)) = true) (hl : ds.length ≤ 1000) (μ : Store) : C_fits_end_plan_1 [.fz (.tup ds), .no] μ = .ok (.lst (ds.map fun d => .bl (okPairB d))) μ := by
  refine ev_lcT (h := fun d => .bl (okPairB d)) (ds := ds) (μ' := μ) (by simp) rfl (by omega) fun d hd => ?_
  refine ⟨_, rfl, ?_⟩
  simp [wipeE, fits_bounds_spec (List.all_eq_true.mp hp d hd)]
theorem pair_of {d : D} (h : okPairB d = true) : ∃ l k : Int, d = .tup [.int l, .int k] ∧ PairOk (l, k) := by
  unfold okPairB at h
  split at h
  · rename_i l k
    simp only [Bool.and_eq_true, decide_eq_true_eq] at h
    exact ⟨l, k, rfl, by unfold PairOk; simp only; omega⟩
  · cases h
theorem last_of {ds : List D} (h : 0 < ds.length) (ha : ds.all okPairB = true) : ∃ l k : Int, ds.getLast? = some (.tup [.int l, .int k]) ∧ PairOk (l, k) ∧ L2.atI ds (-1) = some (.tup [.int l, .int k]) := by
  have hne : ds ≠ [] := fun e => by subst e; simp at h
  obtain ⟨l, k, e, hk⟩ := pair_of (List.all_eq_true.mp ha _ (List.getLast_mem hne))
  refine ⟨l, k, by rw [List.getLast?_eq_some_getLast hne, e], hk, ?_⟩
  rw [← List.dropLast_concat_getLast hne, L2.atI_last, e]
theorem fits_spec {n : Nat} {d : D} (h : D.pd (n + 2) d = true) (μ : Store) : g_fits_end_plan [d] μ = .ok (.bl (okPlanB d)) μ := by
  have ht := is_tuple_spec (lo := 1) (hi := 40) h μ
  unfold g_fits_end_plan F_fits_end_plan
  cases d with
  | tup ds =>
    have hp : ds.all (D.pd (n + 1)) = true := h
    by_cases h1 : 1 ≤ ds.length
    · by_cases h2 : ds.length ≤ 40
      · have hc := fits_c hp (by omega) μ
        have hb := all_bl (f := okPairB) ds
        have e1 : tupB 1 40 (.tup ds) = true := by
          rw [tupB_tup]
          rw [decide_eq_true (by omega), decide_eq_true (by omega)]; rfl
        rw [e1] at ht
        by_cases h3 : ds.all okPairB = true
        · obtain ⟨l, k, g1, g2, g3⟩ := last_of h1 h3
          have i0 : ixS μ (.tup ds) (.int (-1)) = some (.tup [.int l, .int k]) := g3
          have j0 : ixS μ (.tup [.int l, .int k]) (.int 0) = some (.int l) := rfl
          have j1 : ixS μ (.tup [.int l, .int k]) (.int 1) = some (.int k) := rfl
          simp only [h3] at hb
          simp [ht, hc, hb, i0, j0, j1]
          simp [okPlanB, lastB, h1, h2, h3, g1]
        · have h3' : ds.all okPairB = false := by cases e : ds.all okPairB with | true => exact absurd e h3 | false => rfl
          simp only [h3'] at hb
          simp [ht, hc, hb]
          simp [okPlanB, h3']
      · have e1 : tupB 1 40 (.tup ds) = false := by
          rw [tupB_tup]
          rw [decide_eq_true (show (1 : Int) ≤ (ds.length : Int) by omega), decide_eq_false (by omega)]; rfl
        rw [e1] at ht
        simp [ht, okPlanB, h2]
    · have e1 : tupB 1 40 (.tup ds) = false := by
        rw [tupB_tup]
        rw [decide_eq_false (show ¬ (1 : Int) ≤ (ds.length : Int) by omega)]; rfl
      rw [e1] at ht
      simp [ht, okPlanB, h1]
  | _ => simp [ht, tupB, okPlanB]
end K77
set_option Elab.async false
set_option linter.all false
set_option maxRecDepth 100000
set_option maxHeartbeats 2000000
namespace K77
open PySem DC
/-! ### points -/
def enumI (row : List Int) : List (Nat × Int) := row.mapIdx fun u w => (u, w)
def rowPts (k : Nat) (row : List Int) : List (Int × Int × Int) := ((enumI row).filter fun e => decide (0 < e.2)).map fun e => ((k : Int) + 1, (e.1 : Int), e.2)
def ptsT : Nat → List (List Int) → List (Int × Int × Int)
  | _, [] => []
  | k, r :: rs => rowPts k r ++ ptsT (k + 1) rs
def pt3 (t : Int × Int × Int) : D := .tup [.int t.1, .int t.2.1, .int t.2.2]
theorem enumI_len (a : List Int) : (enumI a).length = a.length := by unfold enumI; simp
theorem rowPts_len (k : Nat) (row : List Int) : (rowPts k row).length ≤ row.length := by
  unfold rowPts
  rw [List.length_map, ← enumI_len row]
  exact List.length_filter_le _ _
theorem enumD_ints (a : List Int) : enumD (a.map D.int) = (enumI a).map fun e => .tup [.int (e.1 : Nat), .int e.2] := by
  unfold enumD enumI
  apply List.ext_getElem?
  intro i
  rw [List.getElem?_mapIdx, List.getElem?_map, List.getElem?_map, List.getElem?_mapIdx]
  cases a[i]? <;> rfl
def posF : D → Bool
  | .tup [.int _, .int w] => decide (0 < w)
  | _ => false
def ptF (k : Nat) : D → D
  | .tup [.int u, .int w] => .tup [.int ((k : Int) + 1), .int u, .int w]
  | _ => .non
theorem pts_c {pl : D} {fs : List D} {k : Nat} {row : List Int} {μ : Store} (hr : row.length ≤ 1000) : C_points_in_plan_1 [.fz pl, .fz (.lst fs), .fz (.int (k : Nat)), .fz (intsD row), .no, .no] μ = .ok (.lst ((rowPts k row).map pt3)) μ := by
  refine (ev_lc (p := posF) (h := ptF k) (ds := enumD (row.map D.int)) (μ' := μ) (by unfold wEnumA; simp [intsD]) rfl (by rw [enumD_len]; simp; omega) fun d hd => ?_).trans ?_
  · obtain ⟨i, w, rfl⟩ := enum_mem hd
    exact ⟨_, rfl, by simp [wipeE, posF], fun _ => by simp [wipeE, ptF]⟩
  · rw [enumD_ints, List.filter_map, List.map_map]
    unfold rowPts
    rw [List.map_map]
    rfl
def enumR : Nat → List (List Int) → List D
  | _, [] => []
  | k, r :: rs => .tup [.int (k : Nat), intsD r] :: enumR (k + 1) rs
theorem enumR_eq : ∀ (k : Nat) (rs : List (List Int)), (rs.map intsD).mapIdx (fun i x => D.tup [.int ((k + i : Nat) : Int), x]) = enumR k rs
  | _, [] => rfl
  | k, r :: rs => by
    rw [List.map_cons, List.mapIdx_cons]
    have e : (fun (i : Nat) (x : D) => D.tup [.int ((k + (i + 1) : Nat) : Int), x]) = fun i x => D.tup [.int ((k + 1 + i : Nat) : Int), x] := by
      funext i x
      rw [show k + (i + 1) = k + 1 + i by omega]
    show D.tup [.int ((k + 0 : Nat) : Int), intsD r] :: List.mapIdx (fun (i : Nat) (x : D) => D.tup [.int ((k + (i + 1) : Nat) : Int), x]) (rs.map intsD) = .tup [.int (k : Nat), intsD r] :: enumR (k + 1) rs
    rw [← enumR_eq (k + 1) rs, e]
    rfl
theorem enumD_rows (rs : List (List Int)) : enumD (rs.map intsD) = enumR 0 rs := by
  rw [← enumR_eq 0 rs]
  unfold enumD
  simp only [Nat.zero_add]
theorem pts_loop {pl : D} {μ : Store} : ∀ (rs : List (List Int)) (k : Nat) (fs : List D) (s2 s3 : Sl), (∀ r, r ∈ rs → r.length ≤ 1000) → fs.length + 1000 * rs.length ≤ 500000 → ∃ s2' s3',
    sForL (gT (gC (gN 2) (gC (gN 3) gE))) L_points_in_plan_2 (enumR k rs) [.fz pl, .fz (.lst fs), s2, s3, .no, .no] μ = .nx [.fz pl, .fz (.lst (fs ++ (ptsT k rs).map pt3)), s2', s3', .no, .no] μ
  | [], k, fs, s2, s3, _, _ => ⟨s2, s3, by simp [enumR, ptsT]⟩
  | r :: rs, k, fs, s2, s3, hr, hl => by
    simp only [List.length_cons] at hl
    have h1 := hr r (by simp)
    have h2 := rowPts_len k r
    obtain ⟨s2', s3', e⟩ := pts_loop (pl := pl) (μ := μ) rs (k + 1) (fs ++ (rowPts k r).map pt3) (.fz (.int (k : Nat))) (.fz (intsD r)) (fun x hx => hr x (List.mem_cons_of_mem _ hx)) (by simp; omega)
    refine ⟨s2', s3', ?_⟩
    show sForL _ _ (.tup [.int (k : Nat), intsD r] :: enumR (k + 1) rs) _ μ = _
    rw [forL_cons (ρ1 := [.fz pl, .fz (.lst fs), .fz (.int (k : Nat)), .fz (intsD r), .no, .no]) (ρ2 := [.fz pl, .fz (.lst (fs ++ (rowPts k r).map pt3)), .fz (.int (k : Nat)), .fz (intsD r), .no, .no]) (μ2 := μ) rfl ?_, e]
    · simp [ptsT]
    · have ha := addL_ok (xs := fs) (ys := (rowPts k r).map pt3) (by simp; omega)
      have hc := pts_c (pl := pl) (fs := fs) (k := k) (μ := μ) h1
      simp only [ev_asg, ev_bin, ev_var, List.getElem?_cons_succ, List.getElem?_cons_zero, slV_fz, ev_bind_ok, hc, ha, ev_ofO_some, ev_st_ok, List.set_cons_succ, List.set_cons_zero]
theorem endsT_row : ∀ (p : Plan) (a : List Int) (r : List Int), r ∈ endsT p a → r.length ≤ a.length + p.length
  | [], _, r, h => by cases h
  | (l, h) :: p, a, r, hr => by
    rcases List.mem_cons.mp (show r ∈ endL l h (stepH a) :: endsT p (openL l h (stepH a)) from hr) with e | hr
    · rw [e, endL_len, stepH_len, List.length_cons]; omega
    · have := endsT_row p _ r hr
      rw [openL_len, stepH_len] at this
      rw [List.length_cons]; omega
theorem points_spec {p : Plan} (hp : p.length ≤ 40) (μ : Store) : g_points_in_plan [planD p] μ = .ok (.lst ((ptsT 0 (endsT p [1])).map pt3)) μ := by
  have hl := layers_spec hp μ
  have hr : ∀ r, r ∈ endsT p [1] → r.length ≤ 1000 := fun r hr => by
    have := endsT_row p [1] r hr
    simp at this; omega
  obtain ⟨s2, s3, e⟩ := pts_loop (pl := planD p) (μ := μ) (endsT p [1]) 0 [] .no .no hr (by rw [endsT_len]; simp; omega)
  have hs : wEnumA (xIx (xCall g_layers_of_plan (lCons (xVar 0) lNil)) (xC (.int 1))) [.fz (planD p), .fz (.lst []), .no, .no, .no, .no] μ = .ok (enumR 0 (endsT p [1])) μ := by
    unfold wEnumA
    have i1 : ∀ x y : D, ixS μ (.tup [x, y]) (.int 1) = some y := fun _ _ => rfl
    simp [hl, i1, enumD_rows]
  unfold g_points_in_plan F_points_in_plan
  simp [hs, e]
/-! ### valid plans -/
theorem planD_pd (p : Plan) : D.pd 3 (planD p) = true := by
  show (p.map pairI).all (D.pd 2) = true
  rw [List.all_eq_true]
  intro x hx
  obtain ⟨y, _, rfl⟩ := List.mem_map.mp hx
  rfl
theorem okPair_pairI (x : Int × Int) : okPairB (pairI x) = true ↔ PairOk x := by
  show (decide (-1 ≤ x.1) && decide (x.1 ≤ 41) && decide (-1 ≤ x.2) && decide (x.2 ≤ 41) && decide (x.1 < x.2)) = true ↔ _
  simp only [Bool.and_eq_true, decide_eq_true_eq]
  unfold PairOk
  omega
theorem okPlan_iff (p : Plan) : okPlanB (planD p) = true ↔ PlanOk p := by
  have el : lastB (p.map pairI) = true ↔ p ≠ [] ∧ ∀ x, p.getLast? = some x → x.2 = x.1 + 1 := by
    unfold lastB
    rw [List.getLast?_map]
    cases e : p.getLast? with
    | none =>
      have : p = [] := List.getLast?_eq_none_iff.mp e
      simp [this]
    | some x =>
      have hne : p ≠ [] := fun z => by subst z; cases e
      show decide (x.2 = x.1 + 1) = true ↔ _
      rw [decide_eq_true_eq]
      exact ⟨fun h => ⟨hne, fun y hy => by cases hy; exact h⟩, fun h => h.2 x rfl⟩
  show (decide (1 ≤ (p.map pairI).length) && decide ((p.map pairI).length ≤ 40) && (p.map pairI).all okPairB && lastB (p.map pairI)) = true ↔ _
  rw [Bool.and_eq_true, Bool.and_eq_true, Bool.and_eq_true, decide_eq_true_eq, decide_eq_true_eq, el, List.length_map, List.all_map, List.all_eq_true]
  constructor
  · rintro ⟨⟨⟨h1, h2⟩, h3⟩, h4, h5⟩
    exact ⟨h1, h2, fun x hx => (okPair_pairI x).mp (h3 x hx), h5⟩
  · intro h
    exact ⟨⟨⟨h.pos, h.le⟩, fun x hx => (okPair_pairI x).mpr (h.ok x hx)⟩, fun e => by have := h.pos; subst e; simp at this, h.last⟩
theorem need_plan {p : Plan} (h : PlanOk p) (μ : Store) : g_need_end_plan [planD p] μ = .ok .non μ := by
  have hf := fits_spec (n := 1) (planD_pd p) μ
  rw [(okPlan_iff p).mpr h] at hf
  unfold g_need_end_plan F_need_end_plan
  simp [hf]
end K77
set_option Elab.async false
set_option linter.all false
set_option maxRecDepth 100000
set_option maxHeartbeats 2000000
namespace K77
open PySem DC
/-! ### a dict of ints -/
abbrev Asc := List (Int × Int)
def dkD (m : Asc) : D := .dk (m.map fun e => Sum.inl e.1) (m.map fun e => .int e.2)
def getA : Asc → Int → Option Int
  | [], _ => none
  | (k, v) :: m, j => if k = j then some v else getA m j
def putA (m : Asc) (j v : Int) : Asc := if j ∈ m.map Prod.fst then m.map (fun e => if e.1 = j then (e.1, v) else e) else m ++ [(j, v)]
theorem look_dk : ∀ (m : Asc) (j : Int), lookD (m.map fun e => (Sum.inl e.1 : L2.Key)) (m.map fun e => D.int e.2) (Sum.inl j) = (getA m j).map D.int
  | [], _ => rfl
  | (k, v) :: m, j => by
    show (if (Sum.inl k : L2.Key) = Sum.inl j then some (D.int v) else lookD (m.map fun e => (Sum.inl e.1 : L2.Key)) (m.map fun e => D.int e.2) (Sum.inl j)) = (if k = j then some v else getA m j).map D.int
    by_cases h : k = j
    · rw [if_pos (by rw [h]), if_pos h]; rfl
    · rw [if_neg (fun z => h (Sum.inl.inj z)), if_neg h, look_dk m j]
theorem putVs_dk : ∀ (m : Asc) (j v : Int), putVs (m.map fun e => (Sum.inl e.1 : L2.Key)) (m.map fun e => D.int e.2) (Sum.inl j) (.int v) = (m.map fun e => if e.1 = j then (e.1, v) else e).map fun e => D.int e.2
  | [], _, _ => rfl
  | (k, w) :: m, j, v => by
    show (if (Sum.inl k : L2.Key) = Sum.inl j then D.int v :: putVs (m.map fun e => (Sum.inl e.1 : L2.Key)) (m.map fun e => D.int e.2) (Sum.inl j) (.int v) else D.int w :: putVs (m.map fun e => (Sum.inl e.1 : L2.Key)) (m.map fun e => D.int e.2) (Sum.inl j) (.int v)) = D.int (if k = j then (k, v) else (k, w)).2 :: _
    rw [putVs_dk m j v]
    by_cases h : k = j
    · rw [if_pos (by rw [h]), if_pos h]
    · rw [if_neg (fun z => h (Sum.inl.inj z)), if_neg h]
theorem put_dk (m : Asc) (j v : Int) : D.dk (putD (m.map fun e => (Sum.inl e.1 : L2.Key)) (m.map fun e => D.int e.2) (Sum.inl j) (.int v)).1 (putD (m.map fun e => (Sum.inl e.1 : L2.Key)) (m.map fun e => D.int e.2) (Sum.inl j) (.int v)).2 = dkD (putA m j v) := by
  have hm : (Sum.inl j : L2.Key) ∈ (m.map fun e => (Sum.inl e.1 : L2.Key)) ↔ j ∈ m.map Prod.fst := by
    rw [List.mem_map, List.mem_map]
    constructor
    · rintro ⟨e, h1, h2⟩; exact ⟨e, h1, Sum.inl.inj h2⟩
    · rintro ⟨e, h1, h2⟩; exact ⟨e, h1, by rw [h2]⟩
  unfold putD putA dkD
  by_cases h : j ∈ m.map Prod.fst
  · rw [if_pos (hm.mpr h), if_pos h, putVs_dk]
    have : (m.map fun e => if e.1 = j then (e.1, v) else e).map (fun e => (Sum.inl e.1 : L2.Key)) = m.map fun e => (Sum.inl e.1 : L2.Key) := by
      rw [List.map_map]
      apply List.map_congr_left
      intro e _
      show (Sum.inl (if e.1 = j then (e.1, v) else e).1 : L2.Key) = Sum.inl e.1
      split <;> rfl
    rw [this]
  · rw [if_neg (fun z => h (hm.mp z)), if_neg h]
    simp
def addA (m : Asc) (k w : Int) : Asc := putA m k ((getA m k).getD 0 + w)
theorem putA_len (m : Asc) (j v : Int) : (putA m j v).length ≤ m.length + 1 := by
  unfold putA
  split
  · rw [List.length_map]; omega
  · simp
/-- x[k] = e on an own dict of ints -/
theorem ev_putK {ρ : DC.Env} {μ μ1 μ2 : Store} {i : Nat} {fk fe : XD} {m : Asc} {j v : Int} (h0 : ρ[i]? = some (.ow (dkD m))) (he : fe ρ μ = .ok (.int v) μ1) (hk : fk ρ μ1 = .ok (.int j) μ2) (hl : m.length ≤ 1000000) : sPutK i fk fe ρ μ = .nx (ρ.set i (.ow (dkD (putA m j v)))) μ2 := by
  unfold sPutK
  rw [he]
  simp only [ev_st_ok, h0, dkD]
  rw [hk]
  have e1 : D.key (.int j) = some (Sum.inl j) := rfl
  simp only [ev_st_ok, e1]
  have hl' : lenOk (m.map fun e => (Sum.inl e.1 : L2.Key)) = true := Nat.ble_eq.mpr (by rw [List.length_map]; exact hl)
  rw [if_pos hl', put_dk]
  rfl
theorem ev_get2 {m : Asc} {j x : Int} : get2K (dkD m) (.int j) (.int x) = some (.int ((getA m j).getD x)) := by
  show some ((lookD (m.map fun e => (Sum.inl e.1 : L2.Key)) (m.map fun e => D.int e.2) (Sum.inl j)).getD (.int x)) = _
  rw [look_dk]
  cases getA m j <;> rfl
theorem ev_getA {m : Asc} {j v : Int} (h : getA m j = some v) : getK (dkD m) (.int j) = some (.int v) := by
  show lookD (m.map fun e => (Sum.inl e.1 : L2.Key)) (m.map fun e => D.int e.2) (Sum.inl j) = _
  rw [look_dk, h]
  rfl
section
variable {pl : D} {hm m : Asc} {fd s3 s4 s5 : Sl} {u o w : Int} {μ : Store} {s8 : Sl}
theorem lp_1 (hu : getA hm u = some w) (hl : m.length ≤ 1000) : L__law_points_1 [pl |> .fz, .fz (dkD hm), fd, s3, s4, s5, .ow (dkD m), .fz (.int u), .fz (.int o)] μ = .nx [pl |> .fz, .fz (dkD hm), fd, s3, s4, s5, .ow (dkD (addA m o w)), .fz (.int u), .fz (.int o)] μ := by
  have e1 : xBor 6 (xGet2K (xVar 6) (xVar 8) (xC (.int 0))) [pl |> .fz, .fz (dkD hm), fd, s3, s4, s5, .ow (dkD m), .fz (.int u), .fz (.int o)] μ = .ok (.int ((getA m o).getD 0)) μ := by
    show ((xGet2K (xVar 6) (xVar 8) (xC (.int 0)) [pl |> .fz, .fz (dkD hm), fd, s3, s4, s5, .fz (dkD m), .fz (.int u), .fz (.int o)] μ).bind fun r μ' => if D.lf 8 r then .ok r μ' else .fail) = _
    have : xGet2K (xVar 6) (xVar 8) (xC (.int 0)) [pl |> .fz, .fz (dkD hm), fd, s3, s4, s5, .fz (dkD m), .fz (.int u), .fz (.int o)] μ = .ok (.int ((getA m o).getD 0)) μ := by
      show (Res.ofO (get2K (dkD m) (.int o) (.int 0)) μ : Res D) = _
      rw [ev_get2]; rfl
    rw [this]
    rfl
  have e2 : xBor 1 (xGetK (xVar 1) (xVar 7)) [pl |> .fz, .fz (dkD hm), fd, s3, s4, s5, .ow (dkD m), .fz (.int u), .fz (.int o)] μ = .ok (.int w) μ := by
    show (Res.ofO (getK (dkD hm) (.int u)) μ : Res D) = _
    rw [ev_getA hu]; rfl
  exact (ev_putK (m := m) (j := o) (v := (getA m o).getD 0 + w) (μ1 := μ) (μ2 := μ) rfl (by simp [e1, e2]) rfl (by omega)).trans rfl
theorem lp_2 (hu : getA hm u = some w) (hl : m.length ≤ 900) : L__law_points_2 [pl |> .fz, .fz (dkD hm), fd, s3, s4, s5, .ow (dkD m), .fz (.int u), s8] μ = .nx [pl |> .fz, .fz (dkD hm), fd, s3, s4, s5, .ow (dkD (addA (addA m u w) (u + 1) w)), .fz (.int u), .fz (.int (u + 1))] μ := by
  have h1 : (addA m u w).length ≤ 1000 := by
    have := putA_len m u ((getA m u).getD 0 + w)
    unfold addA; omega
  have e0 : iSeq (xTup (lCons (xVar 7) (lCons (xBin addD (xVar 7) (xC (.int 1))) lNil))) [pl |> .fz, .fz (dkD hm), fd, s3, s4, s5, .ow (dkD m), .fz (.int u), s8] μ = .ok [.int u, .int (u + 1)] μ := rfl
  show ((iSeq (xTup (lCons (xVar 7) (lCons (xBin addD (xVar 7) (xC (.int 1))) lNil))) [pl |> .fz, .fz (dkD hm), fd, s3, s4, s5, .ow (dkD m), .fz (.int u), s8] μ).st _ fun ds μ' => sForL (gN 8) L__law_points_1 ds [pl |> .fz, .fz (dkD hm), fd, s3, s4, s5, .ow (dkD m), .fz (.int u), s8] μ') = _
  rw [e0]
  simp only [ev_st_ok]
  rw [forL_cons (ρ1 := [pl |> .fz, .fz (dkD hm), fd, s3, s4, s5, .ow (dkD m), .fz (.int u), .fz (.int u)]) rfl (lp_1 hu (by omega)), forL_cons (ρ1 := [pl |> .fz, .fz (dkD hm), fd, s3, s4, s5, .ow (dkD (addA m u w)), .fz (.int u), .fz (.int (u + 1))]) rfl (lp_1 hu h1)]
  rfl
end
def addAll : Asc → Asc → Asc
  | m, [] => m
  | m, (u, w) :: r => addAll (addA (addA m u w) (u + 1) w) r
theorem addA_len (m : Asc) (k w : Int) : (addA m k w).length ≤ m.length + 1 := putA_len _ _ _
theorem lp_loop {pl : D} {hm : Asc} {fd s3 s4 s5 : Sl} {μ : Store} : ∀ (r m : Asc) (s7 s8 : Sl), (∀ e, e ∈ r → getA hm e.1 = some e.2) → m.length + 2 * r.length ≤ 800 → ∃ s7' s8',
    sForL (gN 7) L__law_points_2 (r.map fun e => .int e.1) [pl |> .fz, .fz (dkD hm), fd, s3, s4, s5, .ow (dkD m), s7, s8] μ = .nx [pl |> .fz, .fz (dkD hm), fd, s3, s4, s5, .ow (dkD (addAll m r)), s7', s8'] μ
  | [], m, s7, s8, _, _ => ⟨s7, s8, rfl⟩
  | (u, w) :: r, m, s7, s8, hr, hl => by
    simp only [List.length_cons] at hl
    have h1 := addA_len m u w
    have h2 := addA_len (addA m u w) (u + 1) w
    obtain ⟨s7', s8', e⟩ := lp_loop (pl := pl) (hm := hm) (fd := fd) (s3 := s3) (s4 := s4) (s5 := s5) (μ := μ) r (addA (addA m u w) (u + 1) w) (.fz (.int u)) (.fz (.int (u + 1))) (fun e he => hr e (List.mem_cons_of_mem _ he)) (by omega)
    refine ⟨s7', s8', ?_⟩
    rw [List.map_cons, forL_cons (ρ1 := [pl |> .fz, .fz (dkD hm), fd, s3, s4, s5, .ow (dkD m), .fz (.int u), s8]) rfl (lp_2 (hr (u, w) (by simp)) (by omega)), e]
    rfl
end K77
set_option Elab.async false
set_option linter.all false
set_option maxRecDepth 100000
set_option maxHeartbeats 2000000
namespace K77
open PySem DC
/-! ### a layer as a dict -/
def nz (a : List Int) : Asc := ((enumI a).filter fun e => decide (e.2 ≠ 0)).map fun e => ((e.1 : Int), e.2)
theorem enumI_snoc (a : List Int) (w : Int) : enumI (a ++ [w]) = enumI a ++ [(a.length, w)] := by
  unfold enumI
  rw [List.mapIdx_append]
  simp
theorem nz_snoc (a : List Int) (w : Int) : nz (a ++ [w]) = nz a ++ (if w = 0 then [] else [((a.length : Int), w)]) := by
  unfold nz
  rw [enumI_snoc, List.filter_append, List.map_append]
  congr 1
  by_cases h : w = 0
  · subst h; simp
  · simp [h]
theorem nz_nil : nz [] = [] := rfl
theorem nz_lt {a : List Int} {e : Int × Int} (h : e ∈ nz a) : 0 ≤ e.1 ∧ e.1 < a.length := by
  unfold nz at h
  obtain ⟨x, hx, rfl⟩ := List.mem_map.mp h
  obtain ⟨i, hi⟩ := List.getElem?_of_mem (List.mem_filter.mp hx).1
  unfold enumI at hi
  rw [List.getElem?_mapIdx] at hi
  cases e : a[i]? with
  | none => rw [e] at hi; cases hi
  | some w =>
    rw [e] at hi
    have := Option.some.inj hi
    subst this
    have := (List.getElem?_eq_some_iff.mp e).1
    show 0 ≤ ((i : Nat) : Int) ∧ ((i : Nat) : Int) < a.length
    omega
theorem nz_len (a : List Int) : (nz a).length ≤ a.length := by
  unfold nz
  rw [List.length_map]
  have := List.length_filter_le (fun e : Nat × Int => decide (e.2 ≠ 0)) (enumI a)
  rw [enumI_len] at this
  exact this
theorem getA_none {m : Asc} {j : Int} (h : ∀ e, e ∈ m → e.1 ≠ j) : getA m j = none := by
  induction m with
  | nil => rfl
  | cons e m ih =>
    obtain ⟨k, v⟩ := e
    show (if k = j then some v else getA m j) = none
    rw [if_neg (h (k, v) (by simp)), ih fun e he => h e (List.mem_cons_of_mem _ he)]
theorem getA_snoc {m : Asc} {j v : Int} (h : ∀ e, e ∈ m → e.1 ≠ j) : getA (m ++ [(j, v)]) j = some v := by
  induction m with
  | nil => exact if_pos rfl
  | cons e m ih =>
    obtain ⟨k, w⟩ := e
    show (if k = j then some w else getA (m ++ [(j, v)]) j) = some v
    rw [if_neg (h (k, w) (by simp)), ih fun e he => h e (List.mem_cons_of_mem _ he)]
theorem putA_new {m : Asc} {j v : Int} (h : ∀ e, e ∈ m → e.1 ≠ j) : putA m j v = m ++ [(j, v)] := by
  unfold putA
  rw [if_neg]
  intro z
  obtain ⟨e, h1, h2⟩ := List.mem_map.mp z
  exact h e h1 h2
theorem putA_last {m : Asc} {j v w : Int} (h : ∀ e, e ∈ m → e.1 ≠ j) : putA (m ++ [(j, v)]) j w = m ++ [(j, w)] := by
  unfold putA
  rw [if_pos (by simp)]
  rw [List.map_append]
  congr 1
  · have e : m.map (fun e => if e.1 = j then (e.1, w) else e) = m.map id := List.map_congr_left fun e he => if_neg (h e he)
    rw [e, List.map_id]
  · simp
theorem addA_new {m : Asc} {j w : Int} (h : ∀ e, e ∈ m → e.1 ≠ j) : addA m j w = m ++ [(j, w)] := by
  unfold addA
  rw [getA_none h, putA_new h]
  simp
theorem addA_last {m : Asc} {j v w : Int} (h : ∀ e, e ∈ m → e.1 ≠ j) : addA (m ++ [(j, v)]) j w = m ++ [(j, v + w)] := by
  unfold addA
  rw [getA_snoc h, putA_last h]
  simp
def stepZ (z : Int) (a : List Int) : List Int := List.zipWith (· + ·) (a ++ [0]) (z :: a)
theorem stepZ_snoc : ∀ (a : List Int) (z w : Int), ∃ c y, stepZ z a = c ++ [y] ∧ stepZ z (a ++ [w]) = c ++ [y + w, w] ∧ c.length = a.length
  | [], z, w => ⟨[], z, by simp [stepZ], by simp [stepZ]; omega, rfl⟩
  | x :: a, z, w => by
    obtain ⟨c, y, h1, h2, h3⟩ := stepZ_snoc a x w
    refine ⟨(x + z) :: c, y, ?_, ?_, by simp [h3]⟩
    · show (x + z) :: stepZ x a = _
      rw [h1]; rfl
    · show (x + z) :: stepZ x (a ++ [w]) = _
      rw [h2]; rfl
theorem stepH_Z (a : List Int) : stepH a = stepZ 0 a := rfl
def NN (a : List Int) : Prop := ∀ x, x ∈ a → 0 ≤ x
theorem stepZ_nn : ∀ (a : List Int) (z : Int), 0 ≤ z → NN a → NN (stepZ z a)
  | [], z, hz, _ => fun x hx => by
    simp [stepZ] at hx
    omega
  | y :: a, z, hz, ha => fun x hx => by
    rcases List.mem_cons.mp (show x ∈ (y + z) :: stepZ y a from hx) with e | hx
    · have := ha y (by simp); omega
    · exact stepZ_nn a y (ha y (by simp)) (fun x hx => ha x (List.mem_cons_of_mem _ hx)) x hx
theorem stepH_nn {a : List Int} (h : NN a) : NN (stepH a) := stepZ_nn a 0 (by omega) h
theorem openL_nn {l h : Int} {a : List Int} (hn : NN a) : NN (openL l h a) := fun x hx => by
  obtain ⟨i, hi⟩ := List.getElem?_of_mem hx
  unfold openL at hi
  rw [List.getElem?_mapIdx] at hi
  cases e : a[i]? with
  | none => rw [e] at hi; cases hi
  | some w =>
    rw [e] at hi
    have e2 : (if inB l h i then w else 0) = x := Option.some.inj hi
    have hw := hn w (List.mem_of_getElem? e)
    split at e2 <;> omega
theorem addAll_app : ∀ (r s m : Asc), addAll m (r ++ s) = addAll (addAll m r) s
  | [], _, _ => rfl
  | (u, w) :: r, s, m => addAll_app r s _
theorem snocInd {α : Type} {P : List α → Prop} (h0 : P []) (h1 : ∀ l x, P l → P (l ++ [x])) (l : List α) : P l := by
  have : ∀ n (l : List α), l.length = n → P l := by
    intro n
    induction n with
    | zero => intro l hl; rw [List.eq_nil_of_length_eq_zero hl]; exact h0
    | succ n ih =>
      intro l hl
      have hne : l ≠ [] := fun e => by subst e; cases hl
      rw [← List.dropLast_concat_getLast hne]
      exact h1 _ _ (ih _ (by rw [List.length_dropLast, hl]; rfl))
  exact this _ l rfl
theorem addAll_nz (a : List Int) : NN a → (addAll [] (nz a) = nz (stepH a)) := by
  induction a using snocInd with
  | h0 => intro _; rfl
  | h1 a w ih =>
    intro hn
    have ha : NN a := fun x hx => hn x (List.mem_append_left _ hx)
    have hw : 0 ≤ w := hn w (by simp)
    obtain ⟨c, y, h1, h2, h3⟩ := stepZ_snoc a 0 w
    have hy : 0 ≤ y := stepH_nn ha y (by rw [stepH_Z, h1]; simp)
    have ec : nz (c ++ [y + w, w]) = nz c ++ (if y + w = 0 then [] else [((c.length : Int), y + w)]) ++ (if w = 0 then [] else [(((c.length + 1 : Nat) : Int), w)]) := by
      have e : c ++ [y + w, w] = (c ++ [y + w]) ++ [w] := by simp
      rw [e, nz_snoc, nz_snoc]
      simp
    rw [nz_snoc, addAll_app, ih ha, stepH_Z, stepH_Z, h1, h2, ec, nz_snoc]
    have hc : ∀ e, e ∈ nz c → e.1 ≠ (c.length : Int) := fun e he => by have := nz_lt he; omega
    by_cases h0 : w = 0
    · subst h0
      simp [addAll]
    · rw [if_neg h0, if_neg h0, if_neg (show ¬ y + w = 0 by omega)]
      show addA (addA _ (a.length : Int) w) ((a.length : Int) + 1) w = _
      rw [← h3]
      by_cases hy0 : y = 0
      · subst hy0
        rw [if_pos rfl, List.append_nil, addA_new hc, addA_new]
        · simp
        · intro e he
          rcases List.mem_append.mp he with he | he
          · have := nz_lt he; omega
          · rw [List.mem_singleton.mp he]; simp only; omega
      · rw [if_neg hy0, addA_last hc, addA_new]
        · simp
        · intro e he
          rcases List.mem_append.mp he with he | he
          · have := nz_lt he; omega
          · rw [List.mem_singleton.mp he]; simp only; omega
theorem nz_get (a : List Int) : ∀ e, e ∈ nz a → getA (nz a) e.1 = some e.2 := by
  induction a using snocInd with
  | h0 => intro e he; cases he
  | h1 a w ih =>
    intro e he
    rw [nz_snoc] at he ⊢
    by_cases h0 : w = 0
    · subst h0
      simp only [if_true, List.append_nil] at he ⊢
      exact ih e he
    · rw [if_neg h0] at he ⊢
      have hc : ∀ e, e ∈ nz a → e.1 ≠ (a.length : Int) := fun e he => by have := nz_lt he; omega
      rcases List.mem_append.mp he with he | he
      · have : ∀ (m : Asc) (j v : Int) (p : Int × Int), getA m j = some v → getA (m ++ [p]) j = some v := by
          intro m
          induction m with
          | nil => intro j v p h; cases h
          | cons x m ih =>
            intro j v p h
            obtain ⟨k, w⟩ := x
            have h' : (if k = j then some w else getA m j) = some v := h
            show (if k = j then some w else getA (m ++ [p]) j) = some v
            split at h'
            · rename_i hk; rw [if_pos hk]; exact h'
            · rename_i hk; rw [if_neg hk]; exact ih j v p h'
        exact this _ _ _ _ (ih e he)
      · rw [List.mem_singleton.mp he]
        exact getA_snoc hc
theorem nz_asc (a : List Int) : ((nz a).map Prod.fst).Pairwise (· < ·) := by
  induction a using snocInd with
  | h0 => exact List.Pairwise.nil
  | h1 a w ih =>
    rw [nz_snoc, List.map_append, List.pairwise_append]
    refine ⟨ih, ?_, fun x hx y hy => ?_⟩
    · split
      · exact List.Pairwise.nil
      · exact List.pairwise_singleton _ _
    · obtain ⟨e, he, rfl⟩ := List.mem_map.mp hx
      split at hy
      · cases hy
      · have : y = (a.length : Int) := by simpa using hy
        rw [this]
        exact (nz_lt he).2
/-! ### cut by the bounds -/
def inA (l h : Int) (e : Int × Int) : Bool := decide (l < e.1) && decide (e.1 < h)
theorem nz_open (l h : Int) (a : List Int) : nz (openL l h a) = (nz a).filter (inA l h) := by
  induction a using snocInd with
  | h0 => rfl
  | h1 a w ih =>
    have e : openL l h (a ++ [w]) = openL l h a ++ [if inB l h a.length then w else 0] := by
      unfold openL
      rw [List.mapIdx_append]
      simp
    rw [e, nz_snoc, nz_snoc, ih, List.filter_append, openL_len]
    congr 1
    by_cases h0 : w = 0
    · subst h0; simp
    · by_cases hb : inB l h a.length = true
      · have : inA l h ((a.length : Int), w) = true := hb
        simp [h0, hb, this]
      · have hb' : inB l h a.length = false := by cases e : inB l h a.length with | true => exact absurd e hb | false => rfl
        have : inA l h ((a.length : Int), w) = false := hb'
        simp [h0, hb', this]
theorem pts_end (k : Nat) (l h : Int) (a : List Int) (hn : NN a) : rowPts k (endL l h a) = ((nz a).filter fun e => !inA l h e).map fun e => ((k : Int) + 1, e.1, e.2) := by
  induction a using snocInd with
  | h0 => rfl
  | h1 a w ih =>
    have e : endL l h (a ++ [w]) = endL l h a ++ [if inB l h a.length then 0 else w] := by
      unfold endL
      rw [List.mapIdx_append]
      simp
    have hw : 0 ≤ w := hn w (by simp)
    have e2 : ∀ x, rowPts k (endL l h a ++ [x]) = rowPts k (endL l h a) ++ (if 0 < x then [((k : Int) + 1, (a.length : Int), x)] else []) := by
      intro x
      unfold rowPts
      rw [enumI_snoc, List.filter_append, List.map_append, endL_len]
      congr 1
      by_cases hx : 0 < x <;> simp [hx]
    rw [e, e2, ih fun x hx => hn x (List.mem_append_left _ hx), nz_snoc, List.filter_append, List.map_append]
    congr 1
    by_cases h0 : w = 0
    · subst h0; simp
    · have hp : 0 < w := by omega
      by_cases hb : inB l h a.length = true
      · have : inA l h ((a.length : Int), w) = true := hb
        simp [h0, hb, this]
      · have hb' : inB l h a.length = false := by cases e : inB l h a.length with | true => exact absurd e hb | false => rfl
        have : inA l h ((a.length : Int), w) = false := hb'
        simp [h0, hb', this, hp]
end K77
set_option Elab.async false
set_option linter.all false
set_option maxRecDepth 100000
set_option maxHeartbeats 2000000
namespace K77
open PySem DC
/-! ### _law_points -/
theorem keyInts_map : ∀ m : Asc, keyInts (m.map fun e => (Sum.inl e.1 : L2.Key)) = some (m.map Prod.fst)
  | [] => rfl
  | e :: m => by
    show (keyInts (m.map fun e => (Sum.inl e.1 : L2.Key))).map (e.1 :: ·) = _
    rw [keyInts_map m]
    rfl
theorem sort_asc {l : List Int} (h : l.Pairwise (· < ·)) : DC.sortI l = l :=
  sorted_uniq (sortI_perm l) (sortI_sorted l) (h.imp fun h => Int.le_of_lt h)
theorem sorted_dk {m : Asc} (h : (m.map Prod.fst).Pairwise (· < ·)) (hl : m.length < 64) : sortedA [dkD m] = some (.lst (m.map fun e => .int e.1)) := by
  show (keyInts (m.map fun e => (Sum.inl e.1 : L2.Key))).bind (fun ns => if Nat.blt ns.length 64 then some (D.lst ((DC.sortI ns).map D.int)) else none) = _
  rw [keyInts_map]
  show (if Nat.blt (m.map Prod.fst).length 64 = true then some (D.lst ((DC.sortI (m.map Prod.fst)).map D.int)) else none) = _
  have hb : Nat.blt (m.map Prod.fst).length 64 = true := Nat.ble_eq.mpr (show (m.map Prod.fst).length + 1 ≤ 64 by rw [List.length_map]; exact hl)
  rw [if_pos hb, sort_asc h, List.map_map]
  rfl
section
variable {pl : D} {hm m : Asc} {fs : List D} {k l h : Int} {μ : Store} {s7 : Sl} {o w : Int}
theorem lp3_get (ho : getA m o = some w) {s1 s2 : Sl} : xBor 6 (xGetK (xVar 6) (xVar 8)) [.fz pl, s1, s2, .fz (.int k), .fz (.int l), .fz (.int h), .fz (dkD m), s7, .fz (.int o)] μ = .ok (.int w) μ := by
  show (Res.ofO (getK (dkD m) (.int o)) μ : Res D) = _
  rw [ev_getA ho]; rfl
theorem lp3_in (ho : getA m o = some w) (hi : inA l h (o, w) = true) (hn : ∀ e, e ∈ hm → e.1 ≠ o) (hl : hm.length ≤ 1000) :
    L__law_points_3 [.fz pl, .ow (dkD hm), .ow (.lst fs), .fz (.int k), .fz (.int l), .fz (.int h), .fz (dkD m), s7, .fz (.int o)] μ =
    .nx [.fz pl, .ow (dkD (hm ++ [(o, w)])), .ow (.lst fs), .fz (.int k), .fz (.int l), .fz (.int h), .fz (dkD m), s7, .fz (.int o)] μ := by
  have h1 : l < o := by unfold inA at hi; simp at hi; exact hi.1
  have h2 : o < h := by unfold inA at hi; simp at hi; exact hi.2
  have e := ev_putK (ρ := [.fz pl, .ow (dkD hm), .ow (.lst fs), .fz (.int k), .fz (.int l), .fz (.int h), .fz (dkD m), s7, .fz (.int o)]) (μ := μ) (i := 1) (fk := xVar 8) (fe := xBor 6 (xGetK (xVar 6) (xVar 8))) (m := hm) (j := o) (v := w) (μ1 := μ) (μ2 := μ) rfl (lp3_get ho) rfl (by omega)
  rw [putA_new hn] at e
  simp [h1, h2, e]
theorem lp3_out (ho : getA m o = some w) (hi : inA l h (o, w) = false) (hl : fs.length ≤ 1000000) :
    L__law_points_3 [.fz pl, .ow (dkD hm), .ow (.lst fs), .fz (.int k), .fz (.int l), .fz (.int h), .fz (dkD m), s7, .fz (.int o)] μ =
    .nx [.fz pl, .ow (dkD hm), .ow (.lst (fs ++ [pt3 (k + 1, o, w)])), .fz (.int k), .fz (.int l), .fz (.int h), .fz (dkD m), s7, .fz (.int o)] μ := by
  have e := ev_app (ρ := [.fz pl, .ow (dkD hm), .ow (.lst fs), .fz (.int k), .fz (.int l), .fz (.int h), .fz (dkD m), s7, .fz (.int o)]) (μ := μ) (i := 2) (f := xTup (lCons (xBin addD (xVar 3) (xC (.int 1))) (lCons (xVar 8) (lCons (xBor 6 (xGetK (xVar 6) (xVar 8))) lNil)))) (ds := fs) (d := pt3 (k + 1, o, w)) (μ' := μ) rfl (by simp [lp3_get ho, pt3]) hl
  by_cases h1 : l < o
  · have h2 : ¬ o < h := by unfold inA at hi; simp [h1] at hi; omega
    simp [h1, h2, e]
  · simp [h1, e]
end
theorem lp3_loop {pl : D} {m : Asc} {k l h : Int} {μ : Store} {s7 : Sl} : ∀ (r hm : Asc) (fs : List D) (s8 : Sl), (∀ e, e ∈ r → getA m e.1 = some e.2) → (hm.map Prod.fst ++ r.map Prod.fst).Pairwise (· < ·) → hm.length + r.length ≤ 900 → fs.length + r.length ≤ 900000 → ∃ s8',
    sForL (gN 8) L__law_points_3 (r.map fun e => .int e.1) [.fz pl, .ow (dkD hm), .ow (.lst fs), .fz (.int k), .fz (.int l), .fz (.int h), .fz (dkD m), s7, s8] μ =
    .nx [.fz pl, .ow (dkD (hm ++ r.filter (inA l h))), .ow (.lst (fs ++ ((r.filter fun e => !inA l h e).map fun e => pt3 (k + 1, e.1, e.2)))), .fz (.int k), .fz (.int l), .fz (.int h), .fz (dkD m), s7, s8'] μ
  | [], hm, fs, s8, _, _, _, _ => ⟨s8, by simp⟩
  | (o, w) :: r, hm, fs, s8, hr, ha, h1, h2 => by
    simp only [List.length_cons] at h1 h2
    have ho := hr (o, w) (by simp)
    have hr' : ∀ e, e ∈ r → getA m e.1 = some e.2 := fun e he => hr e (List.mem_cons_of_mem _ he)
    cases hi : inA l h (o, w) with
    | true =>
      have hn : ∀ e, e ∈ hm → e.1 ≠ o := fun e he => by
        have := (List.pairwise_append.mp ha).2.2 e.1 (List.mem_map.mpr ⟨e, he, rfl⟩) o (by simp)
        omega
      obtain ⟨s8', e⟩ := lp3_loop (pl := pl) (m := m) (k := k) (l := l) (h := h) (μ := μ) (s7 := s7) r (hm ++ [(o, w)]) fs (.fz (.int o)) hr' (by simpa using ha) (by simp; omega) (by omega)
      refine ⟨s8', ?_⟩
      rw [List.map_cons, forL_cons (ρ1 := [.fz pl, .ow (dkD hm), .ow (.lst fs), .fz (.int k), .fz (.int l), .fz (.int h), .fz (dkD m), s7, .fz (.int o)]) rfl (lp3_in ho hi hn (by omega)), e]
      simp [hi]
    | false =>
      obtain ⟨s8', e⟩ := lp3_loop (pl := pl) (m := m) (k := k) (l := l) (h := h) (μ := μ) (s7 := s7) r hm (fs ++ [pt3 (k + 1, o, w)]) (.fz (.int o)) hr' (by
        have := List.pairwise_append.mp ha
        refine List.pairwise_append.mpr ⟨this.1, (List.pairwise_cons.mp this.2.1).2, fun x hx y hy => this.2.2 x hx y (List.mem_cons_of_mem _ hy)⟩) (by omega) (by simp; omega)
      refine ⟨s8', ?_⟩
      rw [List.map_cons, forL_cons (ρ1 := [.fz pl, .ow (dkD hm), .ow (.lst fs), .fz (.int k), .fz (.int l), .fz (.int h), .fz (dkD m), s7, .fz (.int o)]) rfl (lp3_out ho hi (by omega)), e]
      simp [hi]
theorem keyOk_dk (m : Asc) : (m.map fun e => (Sum.inl e.1 : L2.Key)).all keyOk = true := by
  rw [List.all_eq_true]
  intro x hx
  obtain ⟨e, _, rfl⟩ := List.mem_map.mp hx
  rfl
theorem ev_forK {ρ : DC.Env} {μ : Store} {i : Nat} {g : Tg} {F : SD} {m : Asc} (h : ρ[i]? = some (.ow (dkD m))) : sForK i g F ρ μ = sForL g F (m.map fun e => .int e.1) (ρ.set i (.fz (dkD m))) μ := by
  unfold sForK
  rw [h]
  show (if (m.map fun e => (Sum.inl e.1 : L2.Key)).all keyOk = true then sForL g F ((m.map fun e => (Sum.inl e.1 : L2.Key)).map keyD) (ρ.set i (.fz (dkD m))) μ else .fail) = _
  rw [if_pos (keyOk_dk m), List.map_map]
  rfl
theorem lp4 {pl : D} {a : List Int} {fs : List D} {k : Nat} {l h : Int} {s6 s7 s8 : Sl} {μ : Store} (hn : NN a) (ha : a.length ≤ 60) (hf : fs.length ≤ 800000) : ∃ s6' s7' s8',
    L__law_points_4 [.fz pl, .ow (dkD (nz a)), .ow (.lst fs), .fz (.int (k : Nat)), .fz (.int l), .fz (.int h), s6, s7, s8] μ =
    .nx [.fz pl, .ow (dkD (nz (openL l h (stepH a)))), .ow (.lst (fs ++ (rowPts k (endL l h (stepH a))).map pt3)), .fz (.int (k : Nat)), .fz (.int l), .fz (.int h), s6', s7', s8'] μ := by
  have la := nz_len a
  have lb := nz_len (stepH a)
  rw [stepH_len] at lb
  obtain ⟨s7', s8', e1⟩ := lp_loop (pl := pl) (hm := nz a) (fd := .ow (.lst fs)) (s3 := .fz (.int (k : Nat))) (s4 := .fz (.int l)) (s5 := .fz (.int h)) (μ := μ) (nz a) [] s7 s8 (nz_get a) (by simp; omega)
  rw [addAll_nz a hn] at e1
  obtain ⟨s8'', e2⟩ := lp3_loop (pl := pl) (m := nz (stepH a)) (k := (k : Nat)) (l := l) (h := h) (μ := μ) (s7 := s7') (nz (stepH a)) [] fs s8' (nz_get _) (by simpa using nz_asc (stepH a)) (by simp; omega) (by omega)
  rw [List.nil_append, ← nz_open] at e2
  have ep : ((nz (stepH a)).filter fun e => !inA l h e).map (fun e => pt3 ((k : Int) + 1, e.1, e.2)) = (rowPts k (endL l h (stepH a))).map pt3 := by
    rw [pts_end k l h _ (stepH_nn hn), List.map_map]
    rfl
  rw [ep] at e2
  refine ⟨.fz (dkD (nz (stepH a))), s7', s8'', ?_⟩
  have ek := ev_forK (ρ := [.fz pl, .ow (dkD (nz a)), .ow (.lst fs), .fz (.int (k : Nat)), .fz (.int l), .fz (.int h), .ow (dkD []), s7, s8]) (μ := μ) (i := 1) (g := gN 7) (F := L__law_points_2) (m := nz a) rfl
  have e1' : sForL (gN 7) L__law_points_2 ((nz a).map fun e => .int e.1) [.fz pl, .fz (dkD (nz a)), .ow (.lst fs), .fz (.int (k : Nat)), .fz (.int l), .fz (.int h), .ow (dkD []), s7, s8] μ = .nx [.fz pl, .fz (dkD (nz a)), .ow (.lst fs), .fz (.int (k : Nat)), .fz (.int l), .fz (.int h), .ow (dkD (nz (stepH a))), s7', s8'] μ := e1
  have hk : xNewK = fun _ μ => Res.ok (dkD []) μ := rfl
  have hsrt := sorted_dk (nz_asc (stepH a)) (by omega)
  simp only [ev_seq, ev_asgF, hk, ev_st_ok, List.set_cons_succ, List.set_cons_zero, seq_nx]
  rw [ek]
  simp only [List.set_cons_succ, List.set_cons_zero]
  rw [e1']
  simp only [seq_nx, ev_seq, ev_asgF, ev_st_ok, List.set_cons_succ, List.set_cons_zero, ev_frz]
  have hf6 : frzE [.fz pl, .ow (dkD []), .ow (.lst fs), .fz (.int (k : Nat)), .fz (.int l), .fz (.int h), .ow (dkD (nz (stepH a))), s7', s8'] 6 = [.fz pl, .ow (dkD []), .ow (.lst fs), .fz (.int (k : Nat)), .fz (.int l), .fz (.int h), .fz (dkD (nz (stepH a))), s7', s8'] := rfl
  rw [hf6]
  simp only [ev_for, ev_seq_src, ev_cb, ev_lCons, ev_lNil, ev_var, List.getElem?_cons_succ, List.getElem?_cons_zero, slV_fz, ev_bind_ok, hsrt, ev_ofO_some, ev_iSeqD_lst, ev_st_ok]
  exact e2
def enumP : Nat → Plan → List D
  | _, [] => []
  | k, e :: p => .tup [.int (k : Nat), pairI e] :: enumP (k + 1) p
theorem enumP_eq : ∀ (k : Nat) (p : Plan), (p.map pairI).mapIdx (fun i x => D.tup [.int ((k + i : Nat) : Int), x]) = enumP k p
  | _, [] => rfl
  | k, r :: rs => by
    rw [List.map_cons, List.mapIdx_cons]
    have e : (fun (i : Nat) (x : D) => D.tup [.int ((k + (i + 1) : Nat) : Int), x]) = fun i x => D.tup [.int ((k + 1 + i : Nat) : Int), x] := by
      funext i x
      rw [show k + (i + 1) = k + 1 + i by omega]
    show D.tup [.int ((k + 0 : Nat) : Int), pairI r] :: List.mapIdx (fun (i : Nat) (x : D) => D.tup [.int ((k + (i + 1) : Nat) : Int), x]) (rs.map pairI) = .tup [.int (k : Nat), pairI r] :: enumP (k + 1) rs
    rw [← enumP_eq (k + 1) rs, e]
    rfl
theorem lp_all {pl : D} {μ : Store} : ∀ (p : Plan) (k : Nat) (a : List Int) (fs : List D) (s3 s4 s5 s6 s7 s8 : Sl), NN a → a.length + p.length ≤ 50 → fs.length + 100 * p.length ≤ 10000 → ∃ d1 s3' s4' s5' s6' s7' s8',
    sForL (gT (gC (gN 3) (gC (gT (gC (gN 4) (gC (gN 5) gE))) gE))) L__law_points_4 (enumP k p) [.fz pl, .ow (dkD (nz a)), .ow (.lst fs), s3, s4, s5, s6, s7, s8] μ =
    .nx [.fz pl, d1, .ow (.lst (fs ++ (ptsT k (endsT p a)).map pt3)), s3', s4', s5', s6', s7', s8'] μ
  | [], k, a, fs, s3, s4, s5, s6, s7, s8, _, _, _ => ⟨_, s3, s4, s5, s6, s7, s8, by simp [enumP, endsT, ptsT]; rfl⟩
  | (l, h) :: p, k, a, fs, s3, s4, s5, s6, s7, s8, hn, h1, h2 => by
    simp only [List.length_cons] at h1 h2
    obtain ⟨s6', s7', s8', e⟩ := lp4 (pl := pl) (a := a) (fs := fs) (k := k) (l := l) (h := h) (s6 := s6) (s7 := s7) (s8 := s8) (μ := μ) hn (by omega) (by omega)
    have hl := rowPts_len k (endL l h (stepH a))
    rw [endL_len, stepH_len] at hl
    obtain ⟨d1, t3, t4, t5, t6, t7, t8, e2⟩ := lp_all (pl := pl) (μ := μ) p (k + 1) (openL l h (stepH a)) (fs ++ (rowPts k (endL l h (stepH a))).map pt3) (.fz (.int (k : Nat))) (.fz (.int l)) (.fz (.int h)) s6' s7' s8' (openL_nn (stepH_nn hn)) (by rw [openL_len, stepH_len]; omega) (by simp; omega)
    refine ⟨d1, t3, t4, t5, t6, t7, t8, ?_⟩
    show sForL _ _ (.tup [.int (k : Nat), pairI (l, h)] :: enumP (k + 1) p) _ μ = _
    rw [forL_cons (ρ1 := [.fz pl, .ow (dkD (nz a)), .ow (.lst fs), .fz (.int (k : Nat)), .fz (.int l), .fz (.int h), s6, s7, s8]) rfl e, e2]
    simp [endsT, ptsT]
theorem law_points_spec {p : Plan} (hp : p.length ≤ 40) (μ : Store) : g__law_points [planD p] μ = .ok (.lst ((ptsT 0 (endsT p [1])).map pt3)) μ := by
  obtain ⟨d1, t3, t4, t5, t6, t7, t8, e⟩ := lp_all (pl := planD p) (μ := μ) p 0 [1] [] .no .no .no .no .no .no (fun x hx => by simp at hx; omega) (by simp; omega) (by simp; omega)
  have h1 : nz [1] = [(0, 1)] := by decide
  rw [h1] at e
  have hd : (D.dk [.inl 0] [.int 1]) = dkD [(0, 1)] := rfl
  have hs : wEnumA (xVar 0) [.fz (planD p), .ow (dkD [(0, 1)]), .ow (.lst []), .no, .no, .no, .no, .no, .no] μ = .ok (enumP 0 p) μ := by
    show Res.ok (enumD (p.map pairI)) μ = _
    rw [← enumP_eq 0 p]
    unfold enumD
    simp only [Nat.zero_add]
  unfold g__law_points F__law_points
  have hx : xDisp1 (.inl 0) (.int 1) = fun _ μ => Res.ok (dkD [(0, 1)]) μ := rfl
  simp [hx, hs, e, frzE]
end K77
set_option Elab.async false
set_option linter.all false
set_option maxRecDepth 100000
set_option maxHeartbeats 2000000
namespace K77
open PySem DC
/-! ### where a row ends -/
def bI (b : Bool) : Int := if b then 1 else 0
def endG : Plan → Nat → Int → List Bool → Option (Nat × Bool)
  | _, _, _, [] => none
  | [], _, _, _ :: _ => none
  | (l, h) :: p, k, u, b :: bs => if u + bI b ≤ l then some (k + 1, true) else if h ≤ u + bI b then some (k + 1, false) else endG p (k + 1) (u + bI b) bs
def endD : Option (Nat × Bool) → D
  | none => .non
  | some (k, dn) => .tup [.int (k : Nat), .str (if dn then "down" else "up")]
def enumB : Nat → List Bool → List D
  | _, [] => []
  | k, b :: bs => .tup [.int (k : Nat), .str (rowS [b])] :: enumB (k + 1) bs
theorem enumB_eq : ∀ (k : Nat) (bs : List Bool), (bs.map fun b => D.str (rowS [b])).mapIdx (fun i x => D.tup [.int ((k + i : Nat) : Int), x]) = enumB k bs
  | _, [] => rfl
  | k, b :: bs => by
    rw [List.map_cons, List.mapIdx_cons]
    have e : (fun (i : Nat) (x : D) => D.tup [.int ((k + (i + 1) : Nat) : Int), x]) = fun i x => D.tup [.int ((k + 1 + i : Nat) : Int), x] := by
      funext i x
      rw [show k + (i + 1) = k + 1 + i by omega]
    show D.tup [.int ((k + 0 : Nat) : Int), .str (rowS [b])] :: List.mapIdx (fun (i : Nat) (x : D) => D.tup [.int ((k + (i + 1) : Nat) : Int), x]) (bs.map fun b => D.str (rowS [b])) = _ :: enumB (k + 1) bs
    rw [← enumB_eq (k + 1) bs, e]
    rfl
@[simp] theorem ev_addB (i : Int) (b : Bool) : addD (.int i) (.bl b) = some (.int (i + bI b)) := rfl
theorem ix_plan {P : Plan} {k : Nat} {x : Int × Int} (h : P[k]? = some x) (μ : Store) : ixS μ (planD P) (.int (k : Nat)) = some (pairI x) := by
  show L2.atI (P.map pairI) (k : Nat) = _
  exact L2.atI_nat (by rw [List.getElem?_map, h]; rfl)
theorem ix_pair0 (x : Int × Int) (μ : Store) : ixS μ (pairI x) (.int 0) = some (.int x.1) := rfl
theorem ix_pair1 (x : Int × Int) (μ : Store) : ixS μ (pairI x) (.int 1) = some (.int x.2) := rfl
theorem drop_cons {α : Type} {P : List α} {k : Nat} (h : k < P.length) : ∃ x, P[k]? = some x ∧ P.drop k = x :: P.drop (k + 1) := ⟨P[k], List.getElem?_eq_getElem h, List.drop_eq_getElem_cons h⟩
theorem in_ud (b : Bool) : inStr (.str (rowS [b])) (.str (rowS [true, false])) = some (.bl true) := by
  have h : (!(Builtin.Str.occurrences (rowS [true, false]) (rowS [b]) 0 (rowS [true, false]).length 1).isEmpty) = true := by
    cases b <;> decide +kernel
  show some (D.bl (!(Builtin.Str.occurrences (rowS [true, false]) (rowS [b]) 0 (rowS [true, false]).length 1).isEmpty)) = _
  rw [h]
theorem all_true (n : Nat) : allD [.lst (List.replicate n (.bl true))] = some (.bl true) := by
  have h := all_bl (f := fun _ => true) (List.replicate n D.non)
  rw [List.map_replicate] at h
  rw [h]
  simp
end K77
set_option Elab.async false
set_option linter.all false
set_option maxRecDepth 100000
set_option maxHeartbeats 2000000
namespace K77
open PySem DC
/-! ### _law_end -/
def rngI : Int → Nat → List D
  | _, 0 => []
  | lo, n + 1 => .int lo :: rngI (lo + 1) n
theorem rangeD_rng : ∀ (n : Nat) (lo : Int), rangeD lo n = rngI lo n
  | 0, _ => rfl
  | n + 1, lo => by
    show (List.range (n + 1)).map (fun i => D.int (lo + (i : Nat))) = .int lo :: rngI (lo + 1) n
    rw [List.range_succ_eq_map, List.map_cons, List.map_map, ← rangeD_rng n (lo + 1)]
    have e : ((fun i : Nat => D.int (lo + (i : Nat))) ∘ Nat.succ) = fun i : Nat => D.int (lo + 1 + (i : Nat)) := by
      funext i
      show D.int (lo + ((i + 1 : Nat) : Int)) = _
      congr 1
      omega
    rw [e]
    show D.int (lo + ((0 : Nat) : Int)) :: _ = _
    rw [show lo + ((0 : Nat) : Int) = lo by omega]
    rfl
def cnt (bs : List Bool) : Nat := (bs.filter id).length
theorem cnt_snoc (bs : List Bool) (b : Bool) : (cnt (bs ++ [b]) : Int) = cnt bs + bI b := by
  unfold cnt bI
  rw [List.filter_append, List.length_append]
  cases b <;> simp
theorem cut_row {bs : List Bool} {k : Nat} : L2.cutS (rowS bs) none (some ((k : Nat) : Int)) = rowS (bs.take k) := by
  unfold L2.cutS
  rw [HT.sIx_none, HT.sIx_nat, rowS_len]
  unfold rowS
  simp
theorem cutD_len {bs : List Bool} {k : Nat} (h : bs.length ≤ 1000) : slT (.str (rowS bs)) none (some ((k : Nat) : Int)) = some (.str (rowS (bs.take k))) := by
  show (if Nat.ble (rowS bs).length 1000000 = true then some (D.str (L2.cutS (rowS bs) none (some ((k : Nat) : Int)))) else none) = _
  rw [rowS_len, if_pos (Nat.ble_eq.mpr (by omega)), cut_row]
def isU : D → Bool
  | .str x => decide (x = rowS [true])
  | _ => false
theorem filt_u (bs : List Bool) : ((bs.map fun b => D.str (rowS [b])).filter isU).length = cnt bs := by
  rw [List.filter_map, List.length_map]
  unfold cnt
  congr 1
  apply List.filter_congr
  intro b _
  show decide (rowS [b] = rowS [true]) = b
  have := eq_u b
  rw [ev_eqSS, rowS_u] at this
  exact D.bl.inj (Option.some.inj this)
end K77
set_option Elab.async false
set_option linter.all false
set_option maxRecDepth 100000
set_option maxHeartbeats 2000000
namespace K77
open PySem DC
/-! ### powers, sums -/
theorem pow_loop {s1 : Sl} {μ : Store} : ∀ (n : Nat) (lo x : Int) (s3 : Sl), ∃ s3', sForL (gN 3) L__law_power_1 (rngI lo n) [.fz (.int 2), s1, .fz (.int x), s3] μ = .nx [.fz (.int 2), s1, .fz (.int (x * 2 ^ n)), s3'] μ
  | 0, lo, x, s3 => ⟨s3, by simp [rngI]⟩
  | n + 1, lo, x, s3 => by
    obtain ⟨s3', e⟩ := pow_loop (s1 := s1) (μ := μ) n (lo + 1) (x * 2) (.fz (.int lo))
    refine ⟨s3', ?_⟩
    have hm := ev_mul (i := x) (j := 2) (mulOk_r (by decide))
    show sForL _ _ (.int lo :: rngI (lo + 1) n) _ μ = _
    rw [forL_cons (ρ1 := [.fz (.int 2), s1, .fz (.int x), .fz (.int lo)]) (ρ2 := [.fz (.int 2), s1, .fz (.int (x * 2)), .fz (.int lo)]) (μ2 := μ) rfl (by simp [hm]), e]
    have : x * 2 * 2 ^ n = x * 2 ^ (n + 1) := by rw [Int.mul_assoc, Int.pow_succ, Int.mul_comm 2 (2 ^ n)]
    rw [this]
theorem power_spec {n : Nat} (hn : n ≤ 1000) (μ : Store) : g__law_power [.int 2, .int (n : Nat)] μ = .ok (.int (2 ^ n)) μ := by
  obtain ⟨s3', e⟩ := pow_loop (s1 := .fz (.int (n : Nat))) (μ := μ) n 0 1 .no
  have hr := rgOk_int (i := (n : Nat)) (by omega) (by omega)
  have hs : iRg1 (lCons (xVar 1) lNil) [.fz (.int 2), .fz (.int (n : Nat)), .fz (.int 1), .no] μ = .ok (rngI 0 n) μ := by
    unfold iRg1
    simp [hr, rangeD_rng]
  unfold g__law_power F__law_power
  simp [hs, e]
theorem stepZ_sum : ∀ (a : List Int) (z : Int), (stepZ z a).sum = 2 * a.sum + z
  | [], z => by simp [stepZ]
  | x :: a, z => by
    show ((x + z) :: stepZ x a).sum = _
    rw [List.sum_cons, stepZ_sum a x, List.sum_cons]
    omega
theorem stepH_sum (a : List Int) : (stepH a).sum = 2 * a.sum := by rw [stepH_Z, stepZ_sum]; omega
theorem open_end_sum (l h : Int) (a : List Int) : (openL l h a).sum + (endL l h a).sum = a.sum := by
  induction a using snocInd with
  | h0 => rfl
  | h1 a w ih =>
    have e1 : openL l h (a ++ [w]) = openL l h a ++ [if inB l h a.length then w else 0] := by
      unfold openL
      rw [List.mapIdx_append]
      simp
    have e2 : endL l h (a ++ [w]) = endL l h a ++ [if inB l h a.length then 0 else w] := by
      unfold endL
      rw [List.mapIdx_append]
      simp
    rw [e1, e2, List.sum_append, List.sum_append, List.sum_append]
    split <;> simp <;> omega
def Sm (m : Nat) (pts : List (Int × Int × Int)) : Int := ((pts.filter fun t => decide (t.1 ≤ (m : Int))).map fun t => t.2.2 * 2 ^ ((m : Int) - t.1).toNat).sum
theorem Sm_app (m : Nat) (a b : List (Int × Int × Int)) : Sm m (a ++ b) = Sm m a + Sm m b := by
  unfold Sm
  rw [List.filter_append, List.map_append, List.sum_append]
theorem row_sum (k : Nat) (r : List Int) (hn : NN r) : ((rowPts k r).map fun t => t.2.2).sum = r.sum := by
  induction r using snocInd with
  | h0 => rfl
  | h1 a w ih =>
    have hw : 0 ≤ w := hn w (by simp)
    have e : rowPts k (a ++ [w]) = rowPts k a ++ (if 0 < w then [((k : Int) + 1, (a.length : Int), w)] else []) := by
      unfold rowPts
      rw [enumI_snoc, List.filter_append, List.map_append]
      congr 1
      by_cases hx : 0 < w <;> simp [hx]
    rw [e, List.map_append, List.sum_append, List.sum_append, ih fun x hx => hn x (List.mem_append_left _ hx)]
    split
    · simp
    · have : w = 0 := by omega
      subst this; simp
theorem sum_mul (l : List (Int × Int × Int)) (c : Int) : (l.map fun t => t.2.2 * c).sum = (l.map fun t => t.2.2).sum * c := by
  induction l with
  | nil => simp
  | cons t l ih => rw [List.map_cons, List.sum_cons, ih, List.map_cons, List.sum_cons, Int.add_mul]
theorem Sm_row (m k : Nat) (r : List Int) (hn : NN r) : Sm m (rowPts k r) = if k + 1 ≤ m then r.sum * 2 ^ (m - k - 1) else 0 := by
  have hk : ∀ t, t ∈ rowPts k r → t.1 = (k : Int) + 1 := fun t ht => by
    unfold rowPts at ht
    obtain ⟨e, _, rfl⟩ := List.mem_map.mp ht
    rfl
  unfold Sm
  by_cases h : k + 1 ≤ m
  · rw [if_pos h, List.filter_eq_self.mpr fun t ht => decide_eq_true (by rw [hk t ht]; omega)]
    have e : (rowPts k r).map (fun t => t.2.2 * 2 ^ ((m : Int) - t.1).toNat) = (rowPts k r).map fun t => t.2.2 * 2 ^ (m - k - 1) := List.map_congr_left fun t ht => by
      rw [hk t ht, show ((m : Int) - ((k : Int) + 1)).toNat = m - k - 1 by omega]
    rw [e, sum_mul, row_sum k r hn]
  · rw [if_neg h, List.filter_eq_nil_iff.mpr fun t ht => by simp; rw [hk t ht]; omega]
    rfl
theorem Sm_late (m : Nat) : ∀ (rs : List (List Int)) (k : Nat), m ≤ k → (∀ r, r ∈ rs → NN r) → Sm m (ptsT k rs) = 0
  | [], _, _, _ => rfl
  | r :: rs, k, h, hn => by
    show Sm m (rowPts k r ++ ptsT (k + 1) rs) = 0
    rw [Sm_app, Sm_row m k r (hn r (by simp)), if_neg (by omega), Sm_late m rs (k + 1) (by omega) fun x hx => hn x (List.mem_cons_of_mem _ hx)]
    rfl
theorem endL_nn {l h : Int} {a : List Int} (hn : NN a) : NN (endL l h a) := fun x hx => by
  obtain ⟨i, hi⟩ := List.getElem?_of_mem hx
  unfold endL at hi
  rw [List.getElem?_mapIdx] at hi
  cases e : a[i]? with
  | none => rw [e] at hi; cases hi
  | some w =>
    rw [e] at hi
    have e2 : (if inB l h i then 0 else w) = x := Option.some.inj hi
    have hw := hn w (List.mem_of_getElem? e)
    split at e2 <;> omega
theorem endsT_nn : ∀ (p : Plan) (a : List Int), NN a → ∀ r, r ∈ endsT p a → NN r
  | [], _, _, r, h => by cases h
  | (l, h) :: p, a, hn, r, hr => by
    rcases List.mem_cons.mp (show r ∈ endL l h (stepH a) :: endsT p (openL l h (stepH a)) from hr) with e | hr
    · rw [e]; exact endL_nn (stepH_nn hn)
    · exact endsT_nn p _ (openL_nn (stepH_nn hn)) r hr
def opAt (p : Plan) (a : List Int) (j : Nat) : List Int := (a :: opensT p a).getD j []
theorem opAt_succ (l h : Int) (p : Plan) (a : List Int) (j : Nat) : opAt ((l, h) :: p) a (j + 1) = opAt p (openL l h (stepH a)) j := rfl
theorem conserve : ∀ (p : Plan) (a : List Int) (k j : Nat), NN a → j ≤ p.length → (opAt p a j).sum + Sm (k + j) (ptsT k (endsT p a)) = a.sum * 2 ^ j
  | p, a, k, 0, hn, _ => by
    rw [Sm_late (k + 0) _ k (by omega) (endsT_nn p a hn)]
    show a.sum + 0 = a.sum * 1
    omega
  | [], a, k, j + 1, hn, hj => by simp at hj
  | (l, h) :: p, a, k, j + 1, hn, hj => by
    simp only [List.length_cons] at hj
    have ih := conserve p (openL l h (stepH a)) (k + 1) j (openL_nn (stepH_nn hn)) (by omega)
    rw [opAt_succ]
    show _ + Sm (k + (j + 1)) (rowPts k (endL l h (stepH a)) ++ ptsT (k + 1) (endsT p (openL l h (stepH a)))) = _
    rw [Sm_app, Sm_row _ _ _ (endL_nn (stepH_nn hn)), if_pos (by omega), show k + (j + 1) - k - 1 = j by omega]
    rw [show k + 1 + j = k + (j + 1) by omega] at ih
    have hs := open_end_sum l h (stepH a)
    rw [stepH_sum] at hs
    have e : (endL l h (stepH a)).sum = 2 * a.sum - (openL l h (stepH a)).sum := by omega
    rw [e, Int.sub_mul, Int.pow_succ]
    have e2 : 2 * a.sum * 2 ^ j = a.sum * (2 ^ j * 2) := by rw [Int.mul_comm 2 a.sum, Int.mul_assoc, Int.mul_comm 2]
    omega
theorem opAt_get {p : Plan} {a : List Int} {j : Nat} (hj : j ≤ p.length) : (a :: opensT p a)[j]? = some (opAt p a j) := by
  unfold opAt
  rw [List.getD_eq_getElem?_getD, List.getElem?_eq_getElem (by rw [List.length_cons, opensT_len]; omega)]
  rfl
theorem opAt_len : ∀ (p : Plan) (a : List Int) (j : Nat), j ≤ p.length → (opAt p a j).length = a.length + j
  | _, a, 0, _ => rfl
  | [], a, j + 1, h => by simp at h
  | (l, h) :: p, a, j + 1, hj => by
    rw [opAt_succ, opAt_len p _ j (by simpa using hj), openL_len, stepH_len]
    omega
theorem zero_sum {a : List Int} (h : ∀ x, x ∈ a → x = 0) : a.sum = 0 := by
  induction a with
  | nil => rfl
  | cons x a ih =>
    rw [List.sum_cons, h x (by simp), ih fun y hy => h y (List.mem_cons_of_mem _ hy)]
    rfl
theorem last_zero : ∀ (p : Plan) (a : List Int), p ≠ [] → (∀ x, p.getLast? = some x → x.2 = x.1 + 1) → (opAt p a p.length).sum = 0
  | [], _, h, _ => absurd rfl h
  | [(l, h)], a, _, hl => by
    have e : h = l + 1 := hl (l, h) rfl
    subst e
    refine zero_sum fun x hx => ?_
    have hx' : x ∈ openL l (l + 1) (stepH a) := hx
    obtain ⟨i, hi⟩ := List.getElem?_of_mem hx'
    unfold openL at hi
    rw [List.getElem?_mapIdx] at hi
    cases e : (stepH a)[i]? with
    | none => rw [e] at hi; cases hi
    | some w =>
      rw [e] at hi
      have e2 : (if inB l (l + 1) i then w else 0) = x := Option.some.inj hi
      have hf : inB l (l + 1) i = false := by
        unfold inB
        by_cases h1 : l < (i : Int)
        · rw [decide_eq_true h1, decide_eq_false (by omega)]; rfl
        · rw [decide_eq_false h1]; rfl
      rw [hf] at e2
      exact e2.symm
  | (l, h) :: y :: p, a, _, hl => by
    show (opAt ((l, h) :: y :: p) a ((y :: p).length + 1)).sum = 0
    rw [opAt_succ]
    exact last_zero (y :: p) _ (by simp) fun x hx => hl x (by rw [List.getLast?_cons_cons]; exact hx)
end K77
set_option Elab.async false
set_option linter.all false
set_option maxRecDepth 100000
set_option maxHeartbeats 2000000
namespace K77
open PySem DC
/-! ### _law_right -/
abbrev pts (p : Plan) : List (Int × Int × Int) := ptsT 0 (endsT p [1])
theorem ptsT_len : ∀ (rs : List (List Int)) (k n : Nat), (∀ r, r ∈ rs → r.length ≤ n) → (ptsT k rs).length ≤ n * rs.length
  | [], _, _, _ => by simp [ptsT]
  | r :: rs, k, n, h => by
    have h1 := rowPts_len k r
    have h2 := h r (by simp)
    have ih := ptsT_len rs (k + 1) n fun x hx => h x (List.mem_cons_of_mem _ hx)
    show (rowPts k r ++ ptsT (k + 1) rs).length ≤ n * (rs.length + 1)
    rw [List.length_append, Nat.mul_add]
    omega
theorem pts_len {p : Plan} (h : p.length ≤ 40) : (pts p).length ≤ 10000 := by
  have := ptsT_len (endsT p [1]) 0 41 fun r hr => by
    have := endsT_row p [1] r hr
    simp at this; omega
  rw [endsT_len] at this
  have h2 : 41 * p.length ≤ 41 * 40 := Nat.mul_le_mul_left _ h
  unfold pts
  omega
theorem one_nn : NN [1] := fun x hx => by simp at hx; omega
def mulF (m : Nat) : D → D
  | .tup [.int t, .int _, .int w] => .int (w * 2 ^ ((m : Int) - t).toNat)
  | _ => .non
def leF (m : Nat) : D → Bool
  | .tup [.int t, .int _, .int _] => decide (t ≤ (m : Int))
  | _ => false
theorem pts_mem {p : Plan} {t : Int × Int × Int} (h : t ∈ pts p) : 1 ≤ t.1 ∧ t.1 ≤ p.length := by
  have : ∀ (rs : List (List Int)) (k : Nat), t ∈ ptsT k rs → (k : Int) + 1 ≤ t.1 ∧ t.1 ≤ k + rs.length := by
    intro rs
    induction rs with
    | nil => intro k h; cases h
    | cons r rs ih =>
      intro k h
      rcases List.mem_append.mp (show t ∈ rowPts k r ++ ptsT (k + 1) rs from h) with h | h
      · unfold rowPts at h
        obtain ⟨e, _, rfl⟩ := List.mem_map.mp h
        simp only [List.length_cons]
        omega
      · have := ih (k + 1) h
        simp only [List.length_cons]
        omega
  have := this _ 0 h
  rw [endsT_len] at this
  omega
theorem D_ints (l : List Int) : D.ints (l.map D.int) = some l := D.ints_map l
theorem sumA_lst (l : List Int) : sumA [.lst (l.map D.int)] = some (.int l.sum) := by
  show (D.ints (l.map D.int)).map (fun ns => D.int ns.sum) = _
  rw [D_ints]; rfl
theorem sumA_tup (l : List Int) : sumA [.tup (l.map D.int)] = some (.int l.sum) := by
  show (D.ints (l.map D.int)).map (fun ns => D.int ns.sum) = _
  rw [D_ints]; rfl
theorem pd_pts (p : Plan) (n : Nat) : ((pts p).map pt3).all (D.pd (n + 2)) = true := by
  rw [List.all_eq_true]
  intro x hx
  obtain ⟨t, _, rfl⟩ := List.mem_map.mp hx
  rfl
theorem lb_pts (p : Plan) (n : Nat) : ((pts p).map pt3).all (lenB n) = true := by
  rw [List.all_eq_true]
  intro x hx
  obtain ⟨t, _, rfl⟩ := List.mem_map.mp hx
  cases n with
  | zero => rfl
  | succ n => cases n <;> rfl
theorem like12 {d : D} (μ : Store) (h : D.pd 12 d = true) (hb : lenB 12 d = true) : g__law_like 12 [d, d] μ = .ok (.bl true) μ := like_refl 12 (by decide) d μ h hb
theorem endD_ok (o : Option (Nat × Bool)) : D.pd 12 (endD o) = true ∧ lenB 12 (endD o) = true := by
  cases o with
  | none => exact ⟨rfl, rfl⟩
  | some x => obtain ⟨k, b⟩ := x; exact ⟨rfl, rfl⟩
end K77
set_option Elab.async false
set_option linter.all false
set_option maxRecDepth 100000
set_option maxHeartbeats 2000000
namespace K77
open PySem DC
/-! ### slices of tuples -/
theorem cutD_to {xs : List D} {k : Nat} (h : k ≤ xs.length) : cutD xs none (some ((k : Nat) : Int)) = xs.take k := by
  unfold cutD
  rw [HT.sIx_none, HT.sIx_nat, Nat.min_eq_left h]
  simp
theorem cutD_from {xs : List D} {k : Nat} (h : k ≤ xs.length) : cutD xs (some ((k : Nat) : Int)) none = xs.drop k := by
  unfold cutD
  rw [HT.sIx_none, HT.sIx_nat, Nat.min_eq_left h]
  apply List.take_of_length_le
  simp
theorem sl_to {xs : List D} {k : Nat} (h : k ≤ xs.length) : slT (.tup xs) none (some ((k : Nat) : Int)) = some (.tup (xs.take k)) := by
  show some (D.tup (cutD xs none (some ((k : Nat) : Int)))) = _
  rw [cutD_to h]
theorem sl_from {xs : List D} {k : Nat} (h : k ≤ xs.length) : slT (.tup xs) (some ((k : Nat) : Int)) none = some (.tup (xs.drop k)) := by
  show some (D.tup (cutD xs (some ((k : Nat) : Int)) none)) = _
  rw [cutD_from h]
theorem addT_ok {xs ys : List D} (h : xs.length + ys.length ≤ 1000000) : addD (.tup xs) (.tup ys) = some (.tup (xs ++ ys)) := by
  show (if Nat.ble (xs.length + ys.length) 1000000 = true then some (D.tup (xs ++ ys)) else none) = _
  rw [if_pos (Nat.ble_eq.mpr h)]
theorem eq_empty {v : List D} {n : Nat} (hn : n < 60) (h : v.all (D.pd n) = true) : eqD (.tup v) (.tup []) = some (.bl v.isEmpty) := by
  unfold eqD
  have h1 : D.pd 60 (.tup v) = true := pd_mono (n + 1) 60 _ (by omega) h
  rw [h1]
  show some (D.bl (D.eqv (.tup v) (.tup []))) = _
  unfold D.eqv
  cases v <;> simp [D.toPy, D.toPyA, PyData.eqv, PyData.eqvAll]
/-- tuples nowhere too long -/
def smT : Nat → D → Prop
  | 0, _ => True
  | n + 1, d => match d with
    | .tup xs => xs.length ≤ 100 ∧ ∀ x, x ∈ xs → smT n x
    | _ => True
theorem mem_pd {n : Nat} {xs : List D} (h : xs.all (D.pd n) = true) {x : D} (hx : x ∈ xs) : D.pd n x = true := List.all_eq_true.mp h x hx
theorem pd_all {n : Nat} {xs : List D} (h : ∀ x, x ∈ xs → D.pd n x = true) : xs.all (D.pd n) = true := List.all_eq_true.mpr h
def bentB : List D := [.non, .bl true, .bl false, .int 0, .int 1, .int 2, .int 5, .int (-1), .str "", .tup [.int 0, .int 1], .tup [.int (-1), .int 2], .int 41, .int 42, .tup [], .lst []]
theorem bentB_ok : ∀ x, x ∈ bentB → D.pd 3 x = true := by
  intro x hx
  simp only [bentB, List.mem_cons, List.not_mem_nil, or_false] at hx
  rcases hx with rfl | rfl | rfl | rfl | rfl | rfl | rfl | rfl | rfl | rfl | rfl | rfl | rfl | rfl | rfl <;> rfl
end K77
set_option Elab.async false
set_option linter.all false
set_option maxRecDepth 100000
set_option maxHeartbeats 2000000
namespace K77
open PySem DC
/-! ### _law_judged -/
@[simp] theorem ev_asgG {f : XD} {g : Tg} {ρ : DC.Env} {μ : Store} : sAsgG f g ρ μ = (f ρ μ).st ρ fun d μ' => match g d ρ with
  | some ρ' => .nx ρ' μ'
  | none => .fail := rfl
theorem addL_lst {xs ys : List D} (h : xs.length + ys.length ≤ 1000000) : addL (.lst xs) (.lst ys) = some (.lst (xs ++ ys)) := by
  show (if Nat.ble (xs.length + ys.length) 1000000 = true then some (D.lst (xs ++ ys)) else none) = _
  rw [if_pos (Nat.ble_eq.mpr h)]
theorem cutD_len' (xs : List D) (l h : Option Int) : (cutD xs l h).length ≤ xs.length := by
  unfold cutD
  rw [List.length_take, List.length_drop]
  omega
theorem cutD_mem {xs : List D} {l h : Option Int} {x : D} (hx : x ∈ cutD xs l h) : x ∈ xs := by
  unfold cutD at hx
  exact List.mem_of_mem_drop (List.mem_of_mem_take hx)
abbrev oddsD (l h : Int) : List D := [.tup [.int h, .int l], .tup [.int l, .int l], .lst [.int l, .int h], .tup [.int l], .tup [.int l, .int h, .int h], .non, .tup [.int l, .bl true], .tup [.int l, .str "1"], .tup [.int (-2), .int h], .tup [.int l, .int 42], .tup [.int l, .int (h + 1)]]
theorem odds_pd (l h : Int) : ∀ x, x ∈ oddsD l h → D.pd 3 x = true := by
  intro x hx
  simp only [oddsD, List.mem_cons, List.not_mem_nil, or_false] at hx
  rcases hx with rfl | rfl | rfl | rfl | rfl | rfl | rfl | rfl | rfl | rfl | rfl <;> rfl
theorem plan_sm (p : Plan) (hp : p.length ≤ 40) : smT 6 (planD p) := by
  refine ⟨by simp; omega, fun x hx => ?_⟩
  obtain ⟨y, _, rfl⟩ := List.mem_map.mp hx
  exact ⟨by simp [pairI], fun z hz => by
    simp only [List.mem_cons, List.not_mem_nil, or_false] at hz
    rcases hz with rfl | rfl <;> trivial⟩
end K77
set_option Elab.async false
set_option linter.all false
set_option maxRecDepth 100000
set_option maxHeartbeats 2000000
namespace K77
open PySem DC
/-! ### binomials -/
def ch : Nat → Nat → Nat
  | _, 0 => 1
  | 0, _ + 1 => 0
  | n + 1, k + 1 => ch n k + ch n (k + 1)
theorem ch_big : ∀ (n k : Nat), n < k → ch n k = 0
  | 0, k + 1, _ => rfl
  | n + 1, k + 1, h => by
    show ch n k + ch n (k + 1) = 0
    rw [ch_big n k (by omega), ch_big n (k + 1) (by omega)]
theorem ch_zero (n : Nat) : ch n 0 = 1 := by cases n <;> rfl
theorem ch_pos : ∀ (n k : Nat), k ≤ n → 0 < ch n k
  | n, 0, _ => by rw [ch_zero]; decide
  | n + 1, k + 1, h => by
    show 0 < ch n k + ch n (k + 1)
    have := ch_pos n k (by omega)
    omega
theorem ch_absorb : ∀ (n k : Nat), ch (n + 1) (k + 1) * (k + 1) = (n + 1) * ch n k
  | 0, 0 => rfl
  | 0, k + 1 => by
    show (ch 0 (k + 1) + ch 0 (k + 2)) * (k + 2) = 1 * ch 0 (k + 1)
    simp [ch]
  | n + 1, 0 => by
    have ih := ch_absorb n 0
    rw [ch_zero] at ih
    rw [ch_zero]
    show (ch (n + 1) 0 + ch (n + 1) 1) * 1 = (n + 2) * 1
    rw [ch_zero]
    simp only [Nat.zero_add] at ih
    omega
  | n + 1, k + 1 => by
    have i1 := ch_absorb n k
    have i2 := ch_absorb n (k + 1)
    show (ch (n + 1) (k + 1) + ch (n + 1) (k + 2)) * (k + 2) = (n + 2) * ch (n + 1) (k + 1)
    have e : ch (n + 1) (k + 1) = ch n k + ch n (k + 1) := rfl
    have h1 : ch (n + 1) (k + 1) * (k + 2) = ch (n + 1) (k + 1) * (k + 1) + ch (n + 1) (k + 1) := by rw [show k + 2 = (k + 1) + 1 by omega, Nat.mul_succ]
    have h2 : (n + 2) * ch (n + 1) (k + 1) = (n + 1) * ch (n + 1) (k + 1) + ch (n + 1) (k + 1) := by rw [show n + 2 = (n + 1) + 1 by omega, Nat.succ_mul]
    rw [Nat.add_mul, h1, i1, h2]
    have h3 : ch (n + 1) (k + 2) * (k + 2) = (n + 1) * ch n (k + 1) := i2
    rw [h3]
    have h4 : (n + 1) * ch (n + 1) (k + 1) = (n + 1) * ch n k + (n + 1) * ch n (k + 1) := by rw [e, Nat.mul_add]
    rw [h4]
    omega
theorem ch_step {n k : Nat} (h : k ≤ n) : ch n (k + 1) * (k + 1) = ch n k * (n - k) := by
  have h1 := ch_absorb n k
  have e : ch (n + 1) (k + 1) = ch n k + ch n (k + 1) := rfl
  rw [e, Nat.add_mul] at h1
  obtain ⟨j, rfl⟩ := Nat.exists_eq_add_of_le h
  rw [show k + j - k = j by omega]
  have h2 : (k + j + 1) * ch (k + j) k = ch (k + j) k * (k + 1) + ch (k + j) k * j := by
    rw [Nat.mul_comm, show k + j + 1 = (k + 1) + j by omega, Nat.mul_add]
  omega
/-! ### Pascal's rows -/
def pas (n : Nat) : List Int := (List.range (n + 1)).map fun k => ((ch n k : Nat) : Int)
theorem pas_len (n : Nat) : (pas n).length = n + 1 := by unfold pas; simp
theorem pas_get (n i : Nat) : (pas n)[i]? = if i ≤ n then some ((ch n i : Nat) : Int) else none := by
  unfold pas
  rw [List.getElem?_map]
  by_cases h : i ≤ n
  · rw [List.getElem?_range (by omega), if_pos h]; rfl
  · rw [List.getElem?_eq_none (by simp; omega), if_neg h]; rfl
theorem step_pas (n : Nat) : stepH (pas n) = pas (n + 1) := by
  apply List.ext_getElem?
  intro i
  unfold stepH
  rw [List.getElem?_zipWith, pas_get]
  by_cases h : i ≤ n + 1
  · rw [if_pos h]
    have e1 : (pas n ++ [0])[i]? = some ((ch n i : Nat) : Int) := by
      by_cases h2 : i ≤ n
      · rw [List.getElem?_append_left (by rw [pas_len]; omega), pas_get, if_pos h2]
      · have : i = n + 1 := by omega
        subst this
        rw [List.getElem?_append_right (by rw [pas_len]; omega), pas_len, Nat.sub_self, ch_big n (n + 1) (by omega)]
        rfl
    rw [e1]
    cases i with
    | zero =>
      show some (((ch n 0 : Nat) : Int) + 0) = some ((ch (n + 1) 0 : Nat) : Int)
      rw [ch_zero, ch_zero]; rfl
    | succ j =>
      have e2 : (0 :: pas n)[j + 1]? = some ((ch n j : Nat) : Int) := by
        rw [List.getElem?_cons_succ, pas_get, if_pos (by omega)]
      rw [e2]
      show some (((ch n (j + 1) : Nat) : Int) + ((ch n j : Nat) : Int)) = some ((ch n j + ch n (j + 1) : Nat) : Int)
      congr 1
      omega
  · rw [if_neg h, List.getElem?_eq_none (by simp [pas_len]; omega)]
end K77
set_option Elab.async false
set_option linter.all false
set_option maxRecDepth 100000
set_option maxHeartbeats 2000000
namespace K77
open PySem DC
/-! ### the law -/
theorem pow18 : powD (.int 10) (.int 18) = some (.int 1000000000000000000) := rfl
theorem cup_spec (ns : List Int) (hl : ns.length ≤ 63) (μ : Store) : ∃ a b : Int, g__law_cup [.scr ns] μ = .ok (.lst [.int a, .int b]) μ ∧ 0 ≤ a ∧ 0 ≤ b := by
  obtain ⟨z, hz⟩ : ∃ z : Int, ixS μ (.lst (ns.map D.int ++ [.int 0])) (.int 0) = some (.int z) := by
    cases ns with
    | nil => exact ⟨0, rfl⟩
    | cons n ns => exact ⟨n, by
        show L2.atI (D.int n :: (ns.map D.int ++ [.int 0])) ((0 : Nat) : Int) = _
        exact L2.atI_nat rfl⟩
  have ha := addL_ok (xs := ns.map D.int) (ys := [.int 0]) (by simp; omega)
  have hc : 0 ≤ (if z < 0 then -z else z) := by split <;> omega
  generalize hcc : (if z < 0 then -z else z) = c at hc
  have hm := ev_mul (i := c) (j := 283) (mulOk_r (by decide))
  have h1 := ev_mod (i := c * 283 + 3907) (j := 2077503167) (by decide)
  have h2 := ev_div (i := c) (j := 73) (by decide) (by decide)
  have b0 : 0 ≤ (c * 283 + 3907) % 2077503167 := Int.emod_nonneg _ (by decide)
  by_cases hb : (1000000000000000000 : Int) ≤ c
  · refine ⟨c / 73, (c * 283 + 3907) % 2077503167 + 167, ?_, Int.ediv_nonneg hc (by decide), by omega⟩
    unfold g__law_cup F__law_cup bodyF
    simp [listD, ha, hz, hcc, pow18, hm, h1, h2, hb]
  · refine ⟨0, (c * 283 + 3907) % 2077503167 + 167, ?_, Int.le_refl _, by omega⟩
    unfold g__law_cup F__law_cup bodyF
    simp [listD, ha, hz, hcc, pow18, hm, h1, h2, hb]
abbrev some3 : Plan := [(-1, 2), (0, 2), (1, 2)]
theorem some3_ok : PlanOk some3 where
  pos := by decide
  le := by decide
  ok := fun x hx => by
    simp at hx
    rcases hx with rfl | rfl | rfl <;> (refine ⟨?_, ?_, ?_⟩ <;> decide)
  last := fun x hx => by cases hx; rfl
theorem one1_ok : PlanOk [(-1, 0)] := ⟨by decide, by decide, fun x hx => by simp at hx; subst hx; (refine ⟨?_, ?_, ?_⟩ <;> decide), fun x hx => by cases hx; rfl⟩
theorem one2_ok : PlanOk [(1, 2)] := ⟨by decide, by decide, fun x hx => by simp at hx; subst hx; (refine ⟨?_, ?_, ?_⟩ <;> decide), fun x hx => by cases hx; rfl⟩
def told1 : List D := [.bl true, .bl false, .non, .tup [.int 2, .str "up"], .tup [.int 3, .str "down"]]
def told2 : List D := [.tup [.tup [.int 2, .int 0, .int 1], .tup [.int 2, .int 2, .int 1], .tup [.int 3, .int 1, .int 2], .tup [.int 3, .int 2, .int 2]], .tup [.int 1], .tup [.int 0, .int 2, .int 0], .tup [.int 0, .int 0, .int 0, .int 0], .tup [.tup [.int 1, .int 0, .int 1], .tup [.int 1, .int 1, .int 1]], .tup [.int 1, .str "down"]]
theorem ud_rows : (("ud" : Str)) = rowS [true, false] ∧ (("uud" : Str)) = rowS [true, true, false] ∧ (("udd" : Str)) = rowS [true, false, false] ∧ (("u" : Str)) = rowS [true] := by decide +kernel
theorem told1_like (μ : Store) : g__law_like 12 [.lst told1, .lst told1] μ = .ok (.bl true) μ := like12 μ rfl rfl
theorem told2_like (μ : Store) : g__law_like 12 [.lst told2, .lst told2] μ = .ok (.bl true) μ := like12 μ rfl rfl
theorem ev_prom {F : SD} {ρ : DC.Env} {μ μ' : Store} {i : Nat} {a b : Int} (h : ρ[i]? = some (.ow (.lst [.int a, .int b]))) (e : F (ρ.set i (.fz (.own μ.length))) (μ ++ [[a, b]]) = .rt (.bl true) μ') : sProm i F ρ μ = .rt (.bl true) (μ'.take μ.length) := by
  unfold sProm
  rw [h]
  show (match D.ints [D.int a, D.int b] with
    | some ns => (match F (ρ.set i (.fz (.own μ.length))) (μ ++ [ns]) with
      | .rt (.bl b) μ' => SRes.rt (.bl b) (μ'.take μ.length)
      | _ => .fail)
    | none => .fail) = _
  have : D.ints [D.int a, D.int b] = some [a, b] := rfl
  rw [this]
  show (match F (ρ.set i (.fz (.own μ.length))) (μ ++ [[a, b]]) with
      | .rt (.bl b) μ' => SRes.rt (.bl b) (μ'.take μ.length)
      | _ => .fail) = _
  rw [e]
end K77
set_option Elab.async false
set_option linter.all false
set_option maxRecDepth 100000
set_option maxHeartbeats 2000000
namespace K77
open PySem DC
open FR (sumQ pc)
/-! ### weighted layers -/
def wsum (f : Nat → Rat) : List Int → Rat
  | [] => 0
  | w :: r => (w : Rat) * f 0 + wsum (fun u => f (u + 1)) r
theorem wsum_congr : ∀ {a : List Int} {f g : Nat → Rat}, (∀ u, u < a.length → f u = g u) → wsum f a = wsum g a
  | [], _, _, _ => rfl
  | w :: r, f, g, h => by
    show (w : Rat) * f 0 + wsum (fun u => f (u + 1)) r = (w : Rat) * g 0 + wsum (fun u => g (u + 1)) r
    rw [h 0 (by simp), wsum_congr (a := r) (f := fun u => f (u + 1)) (g := fun u => g (u + 1)) fun u hu => h (u + 1) (by simp; omega)]
theorem wsum_add (f g : Nat → Rat) : ∀ (a : List Int) , wsum (fun u => f u + g u) a = wsum f a + wsum g a := by
  intro a
  induction a generalizing f g with
  | nil => show (0 : Rat) = 0 + 0; grind
  | cons w r ih =>
    show (w : Rat) * (f 0 + g 0) + wsum (fun u => f (u + 1) + g (u + 1)) r = _
    rw [ih (fun u => f (u + 1)) (fun u => g (u + 1))]
    show _ = (w : Rat) * f 0 + wsum (fun u => f (u + 1)) r + ((w : Rat) * g 0 + wsum (fun u => g (u + 1)) r)
    grind
theorem wsum_stepZ : ∀ (a : List Int) (z : Int) (f : Nat → Rat), wsum f (stepZ z a) = (z : Rat) * f 0 + wsum (fun u => f u + f (u + 1)) a
  | [], z, f => by
    show ((0 + z : Int) : Rat) * f 0 + 0 = (z : Rat) * f 0 + 0
    rw [Int.zero_add]
  | x :: a, z, f => by
    show ((x + z : Int) : Rat) * f 0 + wsum (fun u => f (u + 1)) (stepZ x a) = (z : Rat) * f 0 + ((x : Rat) * (f 0 + f (0 + 1)) + wsum (fun u => f (u + 1) + f (u + 1 + 1)) a)
    rw [wsum_stepZ a x, Rat.intCast_add]
    grind
theorem wsum_step (a : List Int) (f : Nat → Rat) : wsum f (stepH a) = wsum (fun u => f u + f (u + 1)) a := by
  rw [stepH_Z, wsum_stepZ]
  have : ((0 : Int) : Rat) = 0 := rfl
  rw [this]; grind
theorem wsum_mask (c : Nat → Bool) : ∀ (a : List Int) (f : Nat → Rat), wsum f (a.mapIdx fun u w => if c u then w else 0) = wsum (fun u => if c u then f u else 0) a := by
  intro a
  induction a generalizing c with
  | nil => intro f; rfl
  | cons w r ih =>
    intro f
    rw [List.mapIdx_cons]
    show ((if c 0 then w else 0 : Int) : Rat) * f 0 + wsum (fun u => f (u + 1)) (r.mapIdx fun u w => if c (u + 1) then w else 0) = (w : Rat) * (if c 0 then f 0 else 0) + wsum (fun u => if c (u + 1) then f (u + 1) else 0) r
    rw [ih (fun u => c (u + 1))]
    have z : ((0 : Int) : Rat) = 0 := rfl
    cases c 0
    · simp [z]
    · simp
theorem wsum_split (l h : Int) (a : List Int) (f : Nat → Rat) : wsum f (openL l h a) + wsum f (endL l h a) = wsum f a := by
  have e1 : wsum f (openL l h a) = wsum (fun u => if inB l h u then f u else 0) a := wsum_mask (inB l h) a f
  have e2 : wsum f (endL l h a) = wsum (fun u => if !inB l h u then f u else 0) a := by
    rw [← wsum_mask (fun u => !inB l h u) a f]
    unfold endL
    congr 2
    funext u w
    cases inB l h u <;> rfl
  rw [e1, e2, ← wsum_add]
  apply wsum_congr
  intro u _
  cases inB l h u
  · show 0 + f u = f u; grind
  · show f u + 0 = f u; grind
theorem wsum_zero : ∀ {a : List Int} (f : Nat → Rat), (∀ x, x ∈ a → x = 0) → wsum f a = 0
  | [], _, _ => rfl
  | w :: r, f, h => by
    show (w : Rat) * f 0 + wsum (fun u => f (u + 1)) r = 0
    rw [h w (by simp), wsum_zero _ fun x hx => h x (List.mem_cons_of_mem _ hx)]
    have z : ((0 : Int) : Rat) = 0 := rfl
    rw [z]; grind
/-- the weight of a node -/
def W (q : Rat) (k u : Nat) : Rat := q ^ u * (1 - q) ^ (k - u)
theorem W_step (q : Rat) {k u : Nat} (h : u ≤ k) : W q (k + 1) u = (1 - q) * W q k u ∧ W q (k + 1) (u + 1) = q * W q k u := by
  unfold W
  have e1 : k + 1 - u = (k - u) + 1 := by omega
  have e2 : k + 1 - (u + 1) = k - u := by omega
  rw [e1, e2, Rat.pow_succ, Rat.pow_succ]
  grind
/-- a function on nodes that keeps its mean -/
def Mart (q : Rat) (Φ : Nat → Nat → Rat) : Prop := ∀ k u, (1 - q) * Φ (k + 1) u + q * Φ (k + 1) (u + 1) = Φ k u
def rowsW (F : Nat → Nat → Rat) : Nat → List (List Int) → Rat
  | _, [] => 0
  | k, r :: rs => wsum (F (k + 1)) r + rowsW F (k + 1) rs
theorem mart_step {q : Rat} {Φ : Nat → Nat → Rat} (hΦ : Mart q Φ) {a : List Int} {k : Nat} (ha : a.length = k + 1) : wsum (fun u => W q (k + 1) u * Φ (k + 1) u) (stepH a) = wsum (fun u => W q k u * Φ k u) a := by
  rw [wsum_step]
  apply wsum_congr
  intro u hu
  obtain ⟨e1, e2⟩ := W_step q (show u ≤ k by omega)
  have := hΦ k u
  rw [e1, e2, ← this]
  grind
theorem opt_stop {q : Rat} {Φ : Nat → Nat → Rat} (hΦ : Mart q Φ) : ∀ (p : Plan) (a : List Int) (k : Nat), a.length = k + 1 →
    rowsW (fun t u => W q t u * Φ t u) k (endsT p a) + wsum (fun u => W q (k + p.length) u * Φ (k + p.length) u) (opAt p a p.length) = wsum (fun u => W q k u * Φ k u) a
  | [], a, k, _ => by
    show (0 : Rat) + wsum _ a = _
    rw [Rat.zero_add]; rfl
  | (l, h) :: p, a, k, ha => by
    have ih := opt_stop hΦ p (openL l h (stepH a)) (k + 1) (by rw [openL_len, stepH_len, ha])
    show wsum (fun u => W q (k + 1) u * Φ (k + 1) u) (endL l h (stepH a)) + rowsW _ (k + 1) (endsT p (openL l h (stepH a))) + wsum _ (opAt ((l, h) :: p) a (p.length + 1)) = _
    rw [opAt_succ, ← mart_step hΦ ha, ← wsum_split l h (stepH a), ← ih, List.length_cons, show k + (p.length + 1) = k + 1 + p.length by omega]
    grind
theorem last_all_zero : ∀ (p : Plan) (a : List Int), p ≠ [] → (∀ x, p.getLast? = some x → x.2 = x.1 + 1) → ∀ x, x ∈ opAt p a p.length → x = 0
  | [], _, h, _ => absurd rfl h
  | [(l, h)], a, _, hl => by
    have e : h = l + 1 := hl (l, h) rfl
    subst e
    intro x hx
    have hx' : x ∈ openL l (l + 1) (stepH a) := hx
    unfold openL at hx'
    rw [List.mem_mapIdx] at hx'
    obtain ⟨i, hi, e2⟩ := hx'
    have hf : inB l (l + 1) i = false := by
      unfold inB
      by_cases h1 : l < (i : Int)
      · rw [decide_eq_true h1, decide_eq_false (by omega)]; rfl
      · rw [decide_eq_false h1]; rfl
    rw [hf] at e2
    exact e2.symm
  | (l, h) :: y :: p, a, _, hl => by
    show ∀ x, x ∈ opAt ((l, h) :: y :: p) a ((y :: p).length + 1) → x = 0
    rw [opAt_succ]
    exact last_all_zero (y :: p) _ (by simp) fun x hx => hl x (by rw [List.getLast?_cons_cons]; exact hx)
theorem plan_ne {p : Plan} (h : PlanOk p) : p ≠ [] := fun z => by
  have := h.pos
  subst z
  simp at this
theorem opt_plan {q : Rat} {Φ : Nat → Nat → Rat} (hΦ : Mart q Φ) {p : Plan} (hP : PlanOk p) : rowsW (fun t u => W q t u * Φ t u) 0 (endsT p [1]) = Φ 0 0 := by
  have h := opt_stop hΦ p [1] 0 rfl
  rw [wsum_zero _ (last_all_zero p [1] (plan_ne hP) hP.last)] at h
  have e : wsum (fun u => W q 0 u * Φ 0 u) [1] = Φ 0 0 := by
    show ((1 : Int) : Rat) * (q ^ 0 * (1 - q) ^ (0 - 0) * Φ 0 0) + 0 = Φ 0 0
    have : ((1 : Int) : Rat) = 1 := rfl
    rw [this]; grind
  rw [e] at h
  grind
/-! ### points -/
def ptW (F : Nat → Nat → Rat) (t : Int × Int × Int) : Rat := (t.2.2 : Rat) * F t.1.toNat t.2.1.toNat
theorem row_w (F : Nat → Nat → Rat) (k : Nat) : ∀ (r : List Int), NN r → sumQ ((rowPts k r).map (ptW F)) = wsum (F (k + 1)) r := by
  intro r
  have gen : ∀ (r : List Int) (s : Nat), NN r → sumQ ((((r.mapIdx fun u w => (u + s, w)).filter fun e => decide (0 < e.2)).map fun e => ((k : Int) + 1, (e.1 : Int), e.2)).map (ptW F)) = wsum (fun u => F (k + 1) (u + s)) r := by
    intro r
    induction r with
    | nil => intro s _; rfl
    | cons w r ih =>
      intro s hn
      have ih' := ih (s + 1) fun x hx => hn x (List.mem_cons_of_mem _ hx)
      have hw : 0 ≤ w := hn w (by simp)
      rw [List.mapIdx_cons]
      have e : (fun (i : Nat) (w : Int) => (i + 1 + s, w)) = fun (i : Nat) (w : Int) => (i + (s + 1), w) := by
        funext i w
        congr 1
        omega
      rw [e]
      have e2 : wsum (fun u => F (k + 1) (u + s)) (w :: r) = (w : Rat) * F (k + 1) s + wsum (fun u => F (k + 1) (u + (s + 1))) r := by
        show (w : Rat) * F (k + 1) (0 + s) + wsum (fun u => F (k + 1) (u + 1 + s)) r = _
        rw [Nat.zero_add]
        congr 2
        funext u
        rw [show u + 1 + s = u + (s + 1) by omega]
      rw [e2, ← ih']
      by_cases h0 : 0 < w
      · rw [List.filter_cons_of_pos (by simpa using h0), List.map_cons, List.map_cons]
        show ptW F ((k : Int) + 1, ((0 + s : Nat) : Int), w) + sumQ _ = _
        have : ptW F ((k : Int) + 1, ((0 + s : Nat) : Int), w) = (w : Rat) * F (k + 1) s := by
          show (w : Rat) * F ((k : Int) + 1).toNat (((0 + s : Nat) : Int)).toNat = _
          rw [Int.toNat_natCast, Nat.zero_add, show ((k : Int) + 1).toNat = k + 1 by omega]
        rw [this]
      · rw [List.filter_cons_of_neg (by simpa using h0)]
        have : w = 0 := by omega
        subst this
        have z : ((0 : Int) : Rat) = 0 := rfl
        rw [z]; grind
  intro hn
  have := gen r 0 hn
  exact this
theorem pts_w (F : Nat → Nat → Rat) : ∀ (rs : List (List Int)) (k : Nat), (∀ r, r ∈ rs → NN r) → sumQ ((ptsT k rs).map (ptW F)) = rowsW F k rs
  | [], _, _ => rfl
  | r :: rs, k, h => by
    show sumQ ((rowPts k r ++ ptsT (k + 1) rs).map (ptW F)) = wsum (F (k + 1)) r + rowsW F (k + 1) rs
    rw [List.map_append, FR.sumQ_app, row_w F k r (h r (by simp)), pts_w F rs (k + 1) fun x hx => h x (List.mem_cons_of_mem _ hx)]
theorem pts_mart {q : Rat} {Φ : Nat → Nat → Rat} (hΦ : Mart q Φ) {p : Plan} (hP : PlanOk p) : sumQ ((pts p).map (ptW fun t u => W q t u * Φ t u)) = Φ 0 0 := by
  rw [pts_w _ _ 0 (endsT_nn p [1] one_nn), opt_plan hΦ hP]
theorem mart_one (q : Rat) : Mart q fun _ _ => 1 := fun k u => by grind
theorem mart_wald (q : Rat) : Mart q fun t u => (u : Rat) - q * (t : Rat) := fun k u => by
  have e1 : ((k + 1 : Nat) : Rat) = (k : Rat) + 1 := Rat.natCast_add ..
  have e2 : ((u + 1 : Nat) : Rat) = (u : Rat) + 1 := Rat.natCast_add ..
  show (1 - q) * ((u : Rat) - q * ((k + 1 : Nat) : Rat)) + q * (((u + 1 : Nat) : Rat) - q * ((k + 1 : Nat) : Rat)) = (u : Rat) - q * (k : Rat)
  rw [e1, e2]; grind
end K77
set_option Elab.async false
set_option linter.all false
set_option maxRecDepth 100000
set_option maxHeartbeats 2000000
namespace K77
open PySem DC
open FR (sumQ pc fr SzR Dv Few LowOk SumOk)
/-! ### fractions of the program and of the law -/
theorem div_spec (a b : Int) (μ : Store) : g_divisor_of [.int a, .int b] μ = .ok (.int (Int.gcd a b : Nat)) μ := FR.gcd_spec FR.gcd_L1 a b μ
theorem ldiv_spec (a b : Int) (μ : Store) : g__law_divisor [.int a, .int b] μ = .ok (.int (Int.gcd a b : Nat)) μ := FR.gcd_spec FR.gcd_L2 a b μ
theorem low_ok : LowOk g_lowest := fun a b μ hb h => FR.low_spec div_spec hb h μ
theorem least_ok : LowOk g__law_least := fun a b μ hb h => FR.least_spec ldiv_spec hb h μ
theorem sum_in_ok : SumOk g_sum_in := fun p q μ hp hq => FR.sum_spec low_ok hp hq μ
theorem plus_ok : SumOk g__law_plus := fun p q μ hp hq => FR.sum_spec least_ok hp hq μ
theorem prod_spec {p q : Rat} (hp : SzR 4000 p) (hq : SzR 4000 q) (μ : Store) : g_product_in [fr p, fr q] μ = .ok (fr (p * q)) μ := FR.mul_spec low_ok hp hq μ
theorem times_spec {p q : Rat} (hp : SzR 4000 p) (hq : SzR 4000 q) (μ : Store) : g__law_times [fr p, fr q] μ = .ok (fr (p * q)) μ := FR.mul_spec least_ok hp hq μ
theorem over_spec {R n m : Nat} {a : List Rat} (hf : Few R n m a) (hs : sumQ a ≤ ((2 ^ m : Nat) : Rat)) (μ : Store) : g_sum_over [.lst (a.map fr)] μ = .ok (fr (sumQ a)) μ := (FR.over_spec sum_in_ok hf hs μ).1
theorem lsum_spec {R n m : Nat} {a : List Rat} (hf : Few R n m a) (hs : sumQ a ≤ ((2 ^ m : Nat) : Rat)) (μ : Store) : g__law_sum [.lst (a.map fr)] μ = .ok (fr (sumQ a)) μ := (FR.over_spec plus_ok hf hs μ).2
theorem many_spec {b : Int} (hb : b.natAbs < 18446744073709551616) {n : Nat} (hn : n ≤ 1000) (μ : Store) : g_many_times [.int b, .int (n : Nat)] μ = .ok (.int (b ^ n)) μ := FR.pow_spec hb hn μ
theorem lpow_spec {b : Int} (hb : b.natAbs < 18446744073709551616) {n : Nat} (hn : n ≤ 1000) (μ : Store) : g__law_power [.int b, .int (n : Nat)] μ = .ok (.int (b ^ n)) μ := FR.pow_spec hb hn μ
/-! ### what the points are -/
def LeA (M : Int) (a : List Int) : Prop := ∀ x, x ∈ a → x ≤ M
theorem leA_step {M : Int} {a : List Int} (h0 : 0 ≤ M) (h : LeA M a) : LeA (2 * M) (stepH a) := by
  have gen : ∀ (a : List Int) (z : Int), z ≤ M → LeA M a → LeA (2 * M) (stepZ z a) := by
    intro a
    induction a with
    | nil => intro z hz _ x hx; have : x = 0 + z := by simpa [stepZ] using hx
             omega
    | cons y a ih =>
      intro z hz hy x hx
      rcases List.mem_cons.mp (show x ∈ (y + z) :: stepZ y a from hx) with e | hx
      · have := hy y (by simp); omega
      · exact ih y (hy y (by simp)) (fun w hw => hy w (List.mem_cons_of_mem _ hw)) x hx
  exact gen a 0 h0 h
theorem leA_mask {M : Int} {a : List Int} (c : Nat → Bool) (h0 : 0 ≤ M) (h : LeA M a) : LeA M (a.mapIdx fun u w => if c u then w else 0) := fun x hx => by
  rw [List.mem_mapIdx] at hx
  obtain ⟨i, hi, e⟩ := hx
  have := h _ (List.getElem_mem hi)
  split at e <;> omega
theorem leA_open {M l h : Int} {a : List Int} (h0 : 0 ≤ M) (ha : LeA M a) : LeA M (openL l h a) := leA_mask (inB l h) h0 ha
theorem pts_gen : ∀ (p : Plan) (a : List Int) (k : Nat) (M : Int), a.length = k + 1 → NN a → 0 ≤ M → LeA M a → ∀ t, t ∈ ptsT k (endsT p a) →
    ∃ (m u : Nat) (l h w : Int), t = (((k + m + 1 : Nat) : Int), (u : Int), w) ∧ p[m]? = some (l, h) ∧ u ≤ k + m + 1 ∧ 0 < w ∧ w ≤ M * 2 ^ (m + 1) ∧ ((u : Int) ≤ l ∨ h ≤ (u : Int))
  | [], a, k, M, _, _, _, _, t, ht => by cases ht
  | (l, h) :: p, a, k, M, hl, hn, h0, hM, t, ht => by
    rcases List.mem_append.mp (show t ∈ rowPts k (endL l h (stepH a)) ++ ptsT (k + 1) (endsT p (openL l h (stepH a))) from ht) with ht | ht
    · unfold rowPts at ht
      obtain ⟨e, he, rfl⟩ := List.mem_map.mp ht
      obtain ⟨he1, he2⟩ := List.mem_filter.mp he
      obtain ⟨u, w⟩ := e
      unfold enumI at he1
      rw [List.mem_mapIdx] at he1
      obtain ⟨i, hi, e2⟩ := he1
      have hw : 0 < w := by simpa using he2
      obtain ⟨rfl, rfl⟩ := Prod.mk.inj e2
      have hlen : i < k + 2 := by rw [endL_len, stepH_len, hl] at hi; exact hi
      have hi2 : i < (stepH a).length := by rw [stepH_len, hl]; omega
      have ev : (endL l h (stepH a))[i] = if inB l h i then 0 else (stepH a)[i] :=
        List.getElem_mapIdx (l := stepH a) (f := fun u w => if inB l h u then 0 else w) (h := hi)
      have hin : inB l h i = false := by
        cases hb : inB l h i with
        | false => rfl
        | true => rw [hb] at ev; rw [ev] at hw; simp at hw
      refine ⟨0, i, l, h, _, ?_, rfl, by omega, hw, ?_, ?_⟩
      · simp
      · rw [hin] at ev
        have hx : (endL l h (stepH a))[i] = (stepH a)[i] := ev
        rw [hx]
        have := leA_step h0 hM _ (List.getElem_mem hi2)
        have e1 : M * 2 ^ (0 + 1) = 2 * M := by rw [Int.mul_comm]; rfl
        omega
      · unfold inB at hin
        rcases Bool.and_eq_false_iff.mp hin with z | z
        · left; have := of_decide_eq_false z; omega
        · right; have := of_decide_eq_false z; omega
    · obtain ⟨m, u, l', h', w, e1, e2, e3, e4, e5, e6⟩ := pts_gen p (openL l h (stepH a)) (k + 1) (2 * M) (by rw [openL_len, stepH_len, hl]) (openL_nn (stepH_nn hn)) (by omega) (leA_open (by omega) (leA_step h0 hM)) t ht
      refine ⟨m + 1, u, l', h', w, ?_, by simpa using e2, by omega, e4, ?_, e6⟩
      · rw [e1, show k + 1 + m + 1 = k + (m + 1) + 1 by omega]
      · have : M * 2 ^ (m + 1 + 1) = 2 * M * 2 ^ (m + 1) := by rw [Int.pow_succ, Int.mul_comm 2 M, Int.mul_assoc, Int.mul_comm 2]
        omega
/-- a point of a plan -/
structure PtOk (p : Plan) (t : Int × Int × Int) (m u : Nat) (l h w : Int) : Prop where
  eq : t = (((m + 1 : Nat) : Int), (u : Int), w)
  at_ : p[m]? = some (l, h)
  le : u ≤ m + 1
  pos : 0 < w
  lt : w < 2 ^ 41
  out : (u : Int) ≤ l ∨ h ≤ (u : Int)
theorem pts_all {p : Plan} (hp : p.length ≤ 40) {t : Int × Int × Int} (ht : t ∈ pts p) : ∃ (m u : Nat) (l h w : Int), PtOk p t m u l h w := by
  obtain ⟨m, u, l, h, w, e1, e2, e3, e4, e5, e6⟩ := pts_gen p [1] 0 1 rfl one_nn (by decide) (fun x hx => by simp at hx; omega) t ht
  have hm : m < p.length := (List.getElem?_eq_some_iff.mp e2).1
  have h2 : (2 : Int) ^ (m + 1) ≤ 2 ^ 40 := by
    have : (2 : Nat) ^ (m + 1) ≤ 2 ^ 40 := Nat.pow_le_pow_right (by decide) (by omega)
    have h3 := Int.ofNat_le.mpr this
    simpa using h3
  refine ⟨m, u, l, h, w, ?_, e2, by omega, e4, ?_, e6⟩
  · rw [e1, Nat.zero_add]
  · have : (2 : Int) ^ 40 < 2 ^ 41 := by decide
    omega
/-! ### chances of points -/
structure RateOk (q : Rat) : Prop where
  pos : 0 < q
  lt : q < 1
  den : q.den ≤ 30
def RR (q : Rat) (n : Nat) : Nat := q.den ^ n
theorem RR_pos (q : Rat) (n : Nat) : 0 < RR q n := Nat.pow_pos q.den_pos
theorem RR_lt {q : Rat} (h : RateOk q) {n : Nat} (hn : n ≤ 40) : RR q n < 2 ^ 201 := by
  unfold RR
  have h1 : q.den ^ n ≤ 32 ^ n := Nat.pow_le_pow_left (by have := h.den; omega) n
  have h2 : (32 : Nat) ^ n ≤ 32 ^ 40 := Nat.pow_le_pow_right (by decide) hn
  have h3 : (32 : Nat) ^ 40 < 2 ^ 201 := by decide
  omega
theorem rate_num {q : Rat} (h : RateOk q) : 0 < q.num ∧ q.num < ((q.den : Nat) : Int) := by
  have h1 := (Rat.lt_iff 0 q).mp h.pos
  have h2 := (Rat.lt_iff q 1).mp h.lt
  have e0 : (0 : Rat).num = 0 := rfl
  have e1 : (0 : Rat).den = 1 := rfl
  have e2 : (1 : Rat).num = 1 := rfl
  have e3 : (1 : Rat).den = 1 := rfl
  rw [e0, e1] at h1
  rw [e2, e3] at h2
  omega
def ptC (q : Rat) (t : Int × Int × Int) : Rat := pc q t.2.2 t.2.1.toNat (t.1 - t.2.1).toNat
theorem ptC_eq {q : Rat} {p : Plan} {t : Int × Int × Int} {m u : Nat} {l h w : Int} (ht : PtOk p t m u l h w) : ptC q t = pc q w u (m + 1 - u) := by
  rw [ht.eq]
  have := ht.le
  show pc q w ((u : Int)).toNat (((m + 1 : Nat) : Int) - (u : Int)).toNat = _
  rw [Int.toNat_natCast, show (((m + 1 : Nat) : Int) - (u : Int)).toNat = m + 1 - u by omega]
theorem ptC_W {q : Rat} {p : Plan} {t : Int × Int × Int} (hp : p.length ≤ 40) (ht : t ∈ pts p) : ptC q t = ptW (W q) t := by
  obtain ⟨m, u, l, h, w, hk⟩ := pts_all hp ht
  rw [ptC_eq hk, hk.eq]
  show (w : Rat) * q ^ u * (1 - q) ^ (m + 1 - u) = (w : Rat) * (q ^ (((u : Int)).toNat) * (1 - q) ^ ((((m + 1 : Nat) : Int)).toNat - ((u : Int)).toNat))
  rw [Int.toNat_natCast, Int.toNat_natCast, Rat.mul_assoc]
theorem ptC_nn {q : Rat} (hq : RateOk q) {p : Plan} (hp : p.length ≤ 40) {t : Int × Int × Int} (ht : t ∈ pts p) : 0 ≤ ptC q t := by
  obtain ⟨m, u, l, h, w, hk⟩ := pts_all hp ht
  rw [ptC_eq hk]
  exact FR.pc_nn (Rat.le_of_lt hq.pos) (Rat.le_of_lt hq.lt) (by have := hk.pos; omega) _ _
theorem ptC_dv {q : Rat} {p : Plan} (hp : p.length ≤ 40) {t : Int × Int × Int} (ht : t ∈ pts p) : Dv (RR q p.length) (ptC q t) := by
  obtain ⟨m, u, l, h, w, hk⟩ := pts_all hp ht
  have hm : m < p.length := (List.getElem?_eq_some_iff.mp hk.at_).1
  have hle := hk.le
  have h1 := FR.pc_dv (a := q.num) (b := ((q.den : Nat) : Int)) (FR.den_pos q) w u (m + 1 - u) (N := RR q (m + 1)) (by
    unfold RR
    rw [show u + (m + 1 - u) = m + 1 by omega, ← Int.natCast_pow, Int.toNat_natCast])
  rw [FR.divInt_fr] at h1
  rw [ptC_eq hk]
  have h2 := h1.up (S := RR q (p.length - (m + 1))) (RR_pos q _)
  have : RR q (m + 1) * RR q (p.length - (m + 1)) = RR q p.length := by
    unfold RR
    rw [← Nat.pow_add, show m + 1 + (p.length - (m + 1)) = p.length by omega]
  rw [this] at h2
  exact h2
/-- lists of chances of points -/
theorem few_of {q : Rat} (hq : RateOk q) {p : Plan} (hp : p.length ≤ 40) {a : List Rat} (h : ∀ x, x ∈ a → ∃ (t : Int × Int × Int) (c : Nat), t ∈ pts p ∧ x = (c : Rat) * ptC q t) : Few (RR q p.length) 201 6 a where
  pos := RR_pos q _
  lt := RR_lt hq hp
  le := by decide
  dv := fun x hx => by
    obtain ⟨t, c, ht, e⟩ := h x hx
    obtain ⟨k, ek⟩ := ptC_dv (q := q) hp ht
    refine ⟨(c : Int) * k, ?_⟩
    rw [e, ek, Rat.divInt_eq_div, Rat.divInt_eq_div, Rat.intCast_mul]
    have : (((c : Nat) : Int) : Rat) = (c : Rat) := rfl
    rw [this]; grind
  nn := fun x hx => by
    obtain ⟨t, c, ht, e⟩ := h x hx
    rw [e]
    exact Rat.mul_nonneg Rat.natCast_nonneg (ptC_nn hq hp ht)
theorem point_chance_spec {q : Rat} (hq : RateOk q) {p : Plan} (hp : p.length ≤ 40) {t : Int × Int × Int} (ht : t ∈ pts p) (μ : Store) : g_point_chance [fr q, .int t.1, .int t.2.1, .int t.2.2] μ = .ok (fr (ptC q t)) μ ∧
    g__law_chance [fr q, .int t.1, .int t.2.1, .int t.2.2] μ = .ok (fr (ptC q t)) μ := by
  obtain ⟨m, u, l, h, w, hk⟩ := pts_all hp ht
  have hm : m < p.length := (List.getElem?_eq_some_iff.mp hk.at_).1
  have hle := hk.le
  obtain ⟨n0, n1⟩ := rate_num hq
  have hd := hq.den
  have hdp := FR.den_pos q
  rw [ptC_eq hk, hk.eq]
  generalize hb : ((q.den : Nat) : Int) = b at *
  generalize ha : q.num = a at *
  have hb30 : b ≤ 30 := by omega
  have ed : ((m + 1 : Nat) : Int) - (u : Int) = ((m + 1 - u : Nat) : Int) := by omega
  have s1 := many_spec (b := a) (by omega) (n := u) (by omega) μ
  have s2 := many_spec (b := b - a) (by omega) (n := m + 1 - u) (by omega) μ
  have s3 := many_spec (b := b) (by omega) (n := m + 1) (by omega) μ
  have t1 := lpow_spec (b := a) (by omega) (n := u) (by omega) μ
  have t2 := lpow_spec (b := b - a) (by omega) (n := m + 1 - u) (by omega) μ
  have t3 := lpow_spec (b := b) (by omega) (n := m + 1) (by omega) μ
  have z1 : FR.Sz 5 a := by show a.natAbs < 32; omega
  have z2 : FR.Sz 5 (b - a) := by show (b - a).natAbs < 32; omega
  have z3 : FR.Sz 5 b := by show b.natAbs < 32; omega
  have zw : FR.Sz 41 w := by
    have := hk.pos
    have := hk.lt
    show w.natAbs < 2 ^ 41
    omega
  have p1 := FR.pow_sz z1 u
  have p2 := FR.pow_sz z2 (m + 1 - u)
  have p3 := FR.pow_sz z3 (m + 1)
  have m1 := FR.mul_sz (zw.mono (n := 8900) (by decide)) (p1.mono (n := 8900) (by omega))
  have m2 := FR.mul_sz ((zw.mul p1).mono (n := 8900) (by omega)) (p2.mono (n := 8900) (by omega))
  have hbp : 0 < b ^ (m + 1) := Int.pow_pos (by omega)
  have e := low_ok (w * a ^ u * (b - a) ^ (m + 1 - u)) (b ^ (m + 1)) μ hbp (p3.mono (by omega))
  have e' := least_ok (w * a ^ u * (b - a) ^ (m + 1 - u)) (b ^ (m + 1)) μ hbp (p3.mono (by omega))
  have ep := FR.pc_eq (a := a) (b := b) (by omega) w u (m + 1 - u)
  rw [show u + (m + 1 - u) = m + 1 by omega] at ep
  have eq : Rat.divInt a b = q := by rw [← ha, ← hb]; exact FR.divInt_fr q
  rw [ep, eq] at e e'
  have efr : fr q = .tup [.int a, .int b] := by unfold fr; rw [ha, hb]
  refine ⟨?_, ?_⟩
  · unfold g_point_chance F_point_chance
    rw [efr]
    generalize hT : ((m + 1 : Nat) : Int) = T at *
    simp [s1, s2, s3, m1, m2, e, ed]
  · unfold g__law_chance F__law_chance
    rw [efr]
    have i0 : ixS μ (.tup [.int a, .int b]) (.int 0) = some (.int a) := rfl
    have i1 : ixS μ (.tup [.int a, .int b]) (.int 1) = some (.int b) := rfl
    generalize hT : ((m + 1 : Nat) : Int) = T at *
    simp [i0, i1, t1, t2, t3, m1, m2, e', ed]
end K77
set_option Elab.async false
set_option linter.all false
set_option maxRecDepth 100000
set_option maxHeartbeats 2000000
namespace K77
open PySem DC
open FR (sumQ pc fr SzR Dv Few LowOk SumOk)
/-! ### rates -/
theorem fr_pd (q : Rat) (n : Nat) : D.pd (n + 2) (fr q) = true := by
  unfold fr
  cases n <;> rfl
abbrev G60 : Int := 1000000000000000000000000000000000000000000000000000000000000
theorem fits_fraction_spec {q : Rat} (h1 : q.num.natAbs < 1000000000000000000000000000000000000000000000000000000000000) (h2 : q.den < 1000000000000000000000000000000000000000000000000000000000000) (μ : Store) : g_fits_fraction [fr q] μ = .ok (.bl true) μ := by
  have hd := FR.den_pos q
  have e1 := is_tuple_spec (n := 2) (d := fr q) (lo := 2) (hi := 2) (fr_pd q 0) μ
  have e1' : tupB 2 2 (fr q) = true := rfl
  rw [e1'] at e1
  have i1 := is_integer_spec (n := 1) (d := .int q.num) rfl μ
  have i2 := is_integer_spec (n := 1) (d := .int ((q.den : Nat) : Int)) rfl μ
  have hc : C_fits_fraction_1 [.fz (fr q), .no] μ = .ok (.lst [.bl true, .bl true]) μ := by
    refine (ev_lcT (h := fun _ => .bl true) (ds := [.int q.num, .int ((q.den : Nat) : Int)]) (μ' := μ) (by simp [fr]) rfl (by show 2 ≤ 1000000; decide) fun d hd => ?_).trans rfl
    have hi : ∃ i : Int, d = .int i ∧ -G60 < i ∧ i < G60 := by
      rcases List.mem_cons.mp hd with rfl | hd
      · exact ⟨_, rfl, by unfold G60; omega, by unfold G60; omega⟩
      · rw [List.mem_singleton.mp hd]
        exact ⟨_, rfl, by unfold G60; omega, by unfold G60; omega⟩
    obtain ⟨i, rfl, l1, l2⟩ := hi
    have i3 := is_integer_spec (n := 1) (d := .int i) rfl μ
    have e3 : isIntB (.int i) = true := rfl
    rw [e3] at i3
    refine ⟨_, rfl, ?_⟩
    unfold G60 at l1 l2
    simp [wipeE, i3, l1, l2]
  have hg : Int.gcd q.num ((q.den : Nat) : Int) = 1 := by
    show Nat.gcd q.num.natAbs (((q.den : Nat) : Int)).natAbs = 1
    rw [Int.natAbs_natCast]
    exact q.reduced
  have dv := div_spec q.num ((q.den : Nat) : Int) μ
  rw [hg] at dv
  have hd1 : (1 : Int) ≤ ((q.den : Nat) : Int) := by omega
  unfold g_fits_fraction F_fits_fraction
  simp [e1, hc, FR.ix0, FR.ix1, dv, hd1]
theorem fits_chance_spec {q : Rat} (h0 : 0 ≤ q) (h1 : q ≤ 1) (h2 : q.den < 1000000000000000000000000000000000000000000000000000000000000) (μ : Store) : g_fits_chance [fr q] μ = .ok (.bl true) μ := by
  have n0 : 0 ≤ q.num := Rat.num_nonneg.mpr h0
  have n1 : q.num ≤ ((q.den : Nat) : Int) := by
    have := (Rat.le_iff q 1).mp h1
    have e2 : (1 : Rat).num = 1 := rfl
    have e3 : (1 : Rat).den = 1 := rfl
    rw [e2, e3] at this
    omega
  have e := fits_fraction_spec (q := q) (by omega) h2 μ
  unfold g_fits_chance F_fits_chance
  simp [e, FR.ix0, FR.ix1, n0, n1]
theorem need_rate {q : Rat} (hq : RateOk q) (μ : Store) : g_need_up_rate [fr q] μ = .ok .non μ := by
  have hd := hq.den
  obtain ⟨n0, n1⟩ := rate_num hq
  have e := fits_chance_spec (q := q) (Rat.le_of_lt hq.pos) (Rat.le_of_lt hq.lt) (by omega) μ
  have hd2 : ¬ (30 : Int) < ((q.den : Nat) : Int) := by omega
  unfold g_need_up_rate F_need_up_rate
  simp [e, FR.ix0, FR.ix1, n0, n1, hd2]
theorem need_plan_at {q : Rat} (hq : RateOk q) {p : Plan} (hP : PlanOk p) (μ : Store) : g_need_plan_at [planD p, fr q] μ = .ok .non μ := by
  have e1 := need_plan hP μ
  have e2 := need_rate hq μ
  unfold g_need_plan_at F_need_plan_at
  simp [e1, e2]
/-! ### chances of the points of a plan -/
def pt3c (q : Rat) (t : Int × Int × Int) : D := .tup [.int t.1, .int t.2.1, fr (ptC q t)]
def ptCF (q : Rat) : D → D
  | .tup [.int a, .int b, .int c] => pt3c q (a, b, c)
  | _ => .non
theorem chances_spec {q : Rat} (hq : RateOk q) {p : Plan} (hP : PlanOk p) (μ : Store) : g_chances_of_points [planD p, fr q] μ = .ok (.lst ((pts p).map (pt3c q))) μ := by
  have hp := hP.le
  have hl := pts_len hp
  have hpt := points_spec hp μ
  have hc : C_chances_of_points_1 [.fz (planD p), .fz (fr q), .no, .no, .no] μ = .ok (.lst ((pts p).map (pt3c q))) μ := by
    refine (ev_lcT (h := ptCF q) (ds := (pts p).map pt3) (μ' := μ) (by simp [hpt]) rfl (by simp; omega) fun d hd => ?_).trans (by rw [List.map_map]; rfl)
    obtain ⟨t, ht, rfl⟩ := List.mem_map.mp hd
    have e := (point_chance_spec hq hp ht μ).1
    refine ⟨[.fz (planD p), .fz (fr q), .fz (.int t.1), .fz (.int t.2.1), .fz (.int t.2.2)], rfl, ?_⟩
    simp [e]
    rfl
  unfold g_chances_of_points F_chances_of_points
  simp [hc]
/-! ### parts -/
def upB (p : Plan) (t : Int × Int × Int) : Bool := match p[(t.1 - 1).toNat]? with
  | some (_, h) => decide (h ≤ t.2.1)
  | none => false
theorem upB_eq {p : Plan} {t : Int × Int × Int} {m u : Nat} {l h w : Int} (ht : PtOk p t m u l h w) : upB p t = decide (h ≤ (u : Int)) := by
  unfold upB
  rw [ht.eq]
  show (match p[(((m + 1 : Nat) : Int) - 1).toNat]? with
    | some (_, h) => decide (h ≤ (u : Int))
    | none => false) = _
  rw [show (((m + 1 : Nat) : Int) - 1).toNat = m by omega, ht.at_]
theorem eq_bl (a b : Bool) : eqD (.bl a) (.bl b) = some (.bl (a == b)) := by
  cases a <;> cases b <;> rfl
def isB (up : Bool) (p : Plan) (t : Int × Int × Int) : Bool := upB p t == up
theorem part_loop {q : Rat} {p : Plan} (hp : p.length ≤ 40) {up : Bool} {μ : Store} : ∀ (ts : List (Int × Int × Int)) (ds : List D) (s4 s5 s6 : Sl), (∀ t, t ∈ ts → t ∈ pts p) → ds.length + ts.length ≤ 100000 → ∃ s4' s5' s6',
    sForL (gT (gC (gN 4) (gC (gN 5) (gC (gN 6) gE)))) L_part_up_1 (ts.map (pt3c q)) [.fz (planD p), .fz (fr q), .fz (.bl up), .ow (.lst ds), s4, s5, s6] μ = .nx [.fz (planD p), .fz (fr q), .fz (.bl up), .ow (.lst (ds ++ ((ts.filter (isB up p)).map (ptC q)).map fr)), s4', s5', s6'] μ
  | [], ds, s4, s5, s6, _, _ => ⟨s4, s5, s6, by simp⟩
  | t :: ts, ds, s4, s5, s6, ht, hl => by
    simp only [List.length_cons] at hl
    obtain ⟨m, u, l, h, w, hk⟩ := pts_all hp (ht t (by simp))
    have hix := ix_plan hk.at_ μ
    have e1 : t.1 - 1 = (m : Int) := by rw [hk.eq]; show ((m + 1 : Nat) : Int) - 1 = _; omega
    have e2 : t.2.1 = (u : Int) := by rw [hk.eq]
    have hub := upB_eq hk
    cases hb : isB up p t with
    | true =>
      obtain ⟨s4', s5', s6', e⟩ := part_loop hp (q := q) (up := up) (μ := μ) ts (ds ++ [fr (ptC q t)]) (.fz (.int t.1)) (.fz (.int t.2.1)) (.fz (fr (ptC q t))) (fun x hx => ht x (List.mem_cons_of_mem _ hx)) (by simp; omega)
      refine ⟨s4', s5', s6', ?_⟩
      have ha := ev_app (ρ := [.fz (planD p), .fz (fr q), .fz (.bl up), .ow (.lst ds), .fz (.int t.1), .fz (.int t.2.1), .fz (fr (ptC q t))]) (μ := μ) (i := 3) (f := xVar 6) (ds := ds) (d := fr (ptC q t)) (μ' := μ) rfl rfl (by omega)
      rw [List.map_cons, forL_cons (ρ1 := [.fz (planD p), .fz (fr q), .fz (.bl up), .ow (.lst ds), .fz (.int t.1), .fz (.int t.2.1), .fz (fr (ptC q t))]) (ρ2 := [.fz (planD p), .fz (fr q), .fz (.bl up), .ow (.lst (ds ++ [fr (ptC q t)])), .fz (.int t.1), .fz (.int t.2.1), .fz (fr (ptC q t))]) (μ2 := μ) rfl ?_, e]
      · rw [List.filter_cons_of_pos hb]; simp
      · unfold isB at hb
        rw [hub] at hb
        simp [e1, hix, ix_pair1, e2, eq_bl, hb] at ha ⊢
        exact ha
    | false =>
      obtain ⟨s4', s5', s6', e⟩ := part_loop hp (q := q) (up := up) (μ := μ) ts ds (.fz (.int t.1)) (.fz (.int t.2.1)) (.fz (fr (ptC q t))) (fun x hx => ht x (List.mem_cons_of_mem _ hx)) (by omega)
      refine ⟨s4', s5', s6', ?_⟩
      rw [List.map_cons, forL_cons (ρ1 := [.fz (planD p), .fz (fr q), .fz (.bl up), .ow (.lst ds), .fz (.int t.1), .fz (.int t.2.1), .fz (fr (ptC q t))]) (ρ2 := [.fz (planD p), .fz (fr q), .fz (.bl up), .ow (.lst ds), .fz (.int t.1), .fz (.int t.2.1), .fz (fr (ptC q t))]) (μ2 := μ) rfl ?_, e]
      · rw [List.filter_cons_of_neg (by rw [hb]; decide)]
      · unfold isB at hb
        rw [hub] at hb
        simp [e1, hix, ix_pair1, e2, eq_bl, hb]
def partQ (q : Rat) (p : Plan) (up : Bool) : Rat := sumQ (((pts p).filter (isB up p)).map (ptC q))
theorem sum_pts_one {q : Rat} {p : Plan} (hP : PlanOk p) : sumQ ((pts p).map (ptC q)) = 1 := by
  have h := pts_mart (mart_one q) hP
  rw [← h]
  congr 1
  apply List.map_congr_left
  intro t ht
  rw [ptC_W hP.le ht]
  unfold ptW
  grind
theorem sum_filter_le {α : Type} (f : α → Rat) (c : α → Bool) : ∀ l : List α, (∀ x, x ∈ l → 0 ≤ f x) → sumQ ((l.filter c).map f) ≤ sumQ (l.map f)
  | [], _ => Rat.le_refl
  | x :: l, h => by
    have ih := sum_filter_le f c l fun y hy => h y (List.mem_cons_of_mem _ hy)
    have hx := h x (by simp)
    show _ ≤ f x + sumQ (l.map f)
    by_cases hc : c x = true
    · rw [List.filter_cons_of_pos hc]
      show f x + sumQ ((l.filter c).map f) ≤ _
      grind
    · rw [List.filter_cons_of_neg hc]
      grind
theorem sum_filter_split {α : Type} (f : α → Rat) (c : α → Bool) : ∀ l : List α, sumQ ((l.filter c).map f) + sumQ ((l.filter fun x => !c x).map f) = sumQ (l.map f)
  | [] => by show (0 : Rat) + 0 = 0; grind
  | x :: l => by
    have ih := sum_filter_split f c l
    show _ = f x + sumQ (l.map f)
    by_cases hc : c x = true
    · rw [List.filter_cons_of_pos hc, List.filter_cons_of_neg (by rw [hc]; decide)]
      show f x + sumQ ((l.filter c).map f) + _ = _
      grind
    · rw [List.filter_cons_of_neg hc, List.filter_cons_of_pos (by simpa using hc)]
      show _ + (f x + sumQ ((l.filter fun x => !c x).map f)) = _
      grind
theorem few_pts {q : Rat} (hq : RateOk q) {p : Plan} (hp : p.length ≤ 40) (c : Int × Int × Int → Bool) : Few (RR q p.length) 201 6 (((pts p).filter c).map (ptC q)) := few_of hq hp fun x hx => by
  obtain ⟨t, ht, rfl⟩ := List.mem_map.mp hx
  exact ⟨t, 1, (List.mem_filter.mp ht).1, by have : ((1 : Nat) : Rat) = 1 := rfl; rw [this]; grind⟩
theorem le64 {x : Rat} (h : x ≤ 1) : x ≤ ((2 ^ 6 : Nat) : Rat) := by
  have : ((2 ^ 6 : Nat) : Rat) = 64 := rfl
  rw [this]; grind
theorem part_le {q : Rat} (hq : RateOk q) {p : Plan} (hP : PlanOk p) (c : Int × Int × Int → Bool) : sumQ (((pts p).filter c).map (ptC q)) ≤ 1 := by
  rw [← sum_pts_one (q := q) hP]
  exact sum_filter_le _ _ _ fun t ht => ptC_nn hq hP.le ht
theorem part_spec {q : Rat} (hq : RateOk q) {p : Plan} (hP : PlanOk p) (up : Bool) (μ : Store) : g_part_up [planD p, fr q, .bl up] μ = .ok (fr (partQ q p up)) μ := by
  have hl := pts_len hP.le
  have e1 := chances_spec hq hP μ
  obtain ⟨s4, s5, s6, e2⟩ := part_loop hP.le (q := q) (up := up) (μ := μ) (pts p) [] .no .no .no (fun _ h => h) (by simp; omega)
  have e3 := over_spec (few_pts hq hP.le (isB up p)) (le64 (part_le hq hP _)) μ
  rw [List.nil_append] at e2
  unfold g_part_up F_part_up
  simp only [List.map_map] at e2 e3
  simp [e1, e2, frzE, e3]
  rfl
theorem up_spec {q : Rat} (hq : RateOk q) {p : Plan} (hP : PlanOk p) (μ : Store) : g_chance_up [planD p, fr q] μ = .ok (fr (partQ q p true)) μ := by
  have e1 := need_plan_at hq hP μ
  have e2 := part_spec hq hP true μ
  unfold g_chance_up F_chance_up
  simp [e1, e2]
theorem down_spec {q : Rat} (hq : RateOk q) {p : Plan} (hP : PlanOk p) (μ : Store) : g_chance_down [planD p, fr q] μ = .ok (fr (partQ q p false)) μ := by
  have e1 := need_plan_at hq hP μ
  have e2 := part_spec hq hP false μ
  unfold g_chance_down F_chance_down
  simp [e1, e2]
theorem parts_one {q : Rat} {p : Plan} (hP : PlanOk p) : partQ q p true + partQ q p false = 1 := by
  have h := sum_filter_split (ptC q) (isB true p) (pts p)
  rw [sum_pts_one hP] at h
  have e : isB false p = fun x => !isB true p x := by
    funext x
    unfold isB
    cases upB p x <;> rfl
  unfold partQ
  rw [e]
  exact h
end K77
set_option Elab.async false
set_option linter.all false
set_option maxRecDepth 100000
set_option maxHeartbeats 2000000
namespace K77
open PySem DC
open FR (sumQ pc fr SzR Dv Few LowOk SumOk)
/-! ### numbers of trials -/
theorem pts_len2 {p : Plan} (h : p.length ≤ 40) : (pts p).length ≤ 1640 := by
  have := ptsT_len (endsT p [1]) 0 41 fun r hr => by
    have := endsT_row p [1] r hr
    simp at this; omega
  rw [endsT_len] at this
  have h2 : 41 * p.length ≤ 41 * 40 := Nat.mul_le_mul_left _ h
  unfold pts
  omega
def nums (p : Plan) : List Int := sortU ((pts p).map fun t => t.1)
theorem nums_nd (p : Plan) : (nums p).Nodup := asc_nodup (sortU_asc _)
theorem nums_mem {p : Plan} {k : Int} : k ∈ nums p ↔ ∃ t, t ∈ pts p ∧ t.1 = k := by
  unfold nums
  rw [sortU_mem, List.mem_map]
theorem nums_in {p : Plan} {k : Int} (h : k ∈ nums p) : 1 ≤ k ∧ k ≤ p.length := by
  obtain ⟨t, ht, rfl⟩ := nums_mem.mp h
  exact pts_mem ht
theorem nums_len {p : Plan} (hp : p.length ≤ 40) : (nums p).length ≤ 40 := FR.asc_len (a := 0) (sortU_asc _) fun x hx => by
  have := nums_in (p := p) hx
  omega
def atB (k : Int) (t : Int × Int × Int) : Bool := decide (t.1 = k)
def trQ (q : Rat) (p : Plan) (k : Int) : Rat := sumQ (((pts p).filter (atB k)).map (ptC q))
def trD (q : Rat) (p : Plan) : List D := (nums p).map fun k => .tup [.int k, fr (trQ q p k)]
def trF (q : Rat) (p : Plan) : D → D
  | .int k => .tup [.int k, fr (trQ q p k)]
  | _ => .non
def atF (k : Int) : D → Bool
  | .tup [.int a, _, _] => decide (a = k)
  | _ => false
def chF : D → D
  | .tup [_, _, c] => c
  | _ => .non
def tmF : D → D
  | .tup [a, _, _] => a
  | _ => .non
theorem filter_at (q : Rat) (k : Int) (l : List (Int × Int × Int)) : ((l.map (pt3c q)).filter (atF k)).map chF = ((l.filter (atB k)).map (ptC q)).map fr := by
  rw [List.filter_map, List.map_map, List.map_map]
  rfl
theorem sort_ints {l : List Int} (h1 : l.length ≤ 4000) (h2 : (sortU l).length < 64) : sortSetD [.lst (l.map D.int)] = some (.lst ((sortU l).map D.int)) := by
  show (D.ints (l.map D.int)).bind (fun ns => if (Nat.ble ns.length 4000 && Nat.blt (sortU ns).length 64) = true then some (D.lst ((sortU ns).map D.int)) else none) = _
  rw [D.ints_map]
  show (if (Nat.ble l.length 4000 && Nat.blt (sortU l).length 64) = true then _ else _) = _
  rw [if_pos]
  rw [Nat.ble_eq.mpr h1]
  exact Nat.ble_eq.mpr h2
theorem trials_spec {q : Rat} (hq : RateOk q) {p : Plan} (hP : PlanOk p) (μ : Store) : g_trials_in [planD p, fr q] μ = .ok (.tup (trD q p)) μ := by
  have hl := pts_len2 hP.le
  have hn := nums_len hP.le
  have e1 := chances_spec hq hP μ
  have hc1 : C_trials_in_1 [.fz (planD p), .fz (fr q), .fz (.lst ((pts p).map (pt3c q))), .no, .no, .no, .no, .no] μ = .ok (.lst (((pts p).map fun t => t.1).map D.int)) μ := by
    refine (ev_lcT (h := tmF) (ds := (pts p).map (pt3c q)) (μ' := μ) (by simp) rfl (by simp; omega) fun d hd => ?_).trans (by rw [List.map_map, List.map_map]; rfl)
    obtain ⟨t, ht, rfl⟩ := List.mem_map.mp hd
    exact ⟨_, rfl, rfl⟩
  have hs := sort_ints (l := (pts p).map fun t => t.1) (by simp; omega) (by show (nums p).length < 64; omega)
  have hc2 : ∀ (k : Int) (s3 : Sl), C_trials_in_2 [.fz (planD p), .fz (fr q), .fz (.lst ((pts p).map (pt3c q))), s3, .no, .no, .no, .fz (.int k)] μ = .ok (.lst (((((pts p).filter (atB k)).map (ptC q))).map fr)) μ := fun k s3 => by
    refine (ev_lc (p := atF k) (h := chF) (ds := (pts p).map (pt3c q)) (μ' := μ) (by simp) rfl (by simp; omega) fun d hd => ?_).trans (by rw [filter_at])
    obtain ⟨t, ht, rfl⟩ := List.mem_map.mp hd
    refine ⟨_, rfl, ?_, fun _ => rfl⟩
    simp [wipeE, atF, pt3c]
  have hc3 : C_trials_in_3 [.fz (planD p), .fz (fr q), .fz (.lst ((pts p).map (pt3c q))), .fz (.lst ((nums p).map D.int)), .no, .no, .no, .no] μ = .ok (.lst (trD q p)) μ := by
    refine (ev_lcT (h := trF q p) (ds := (nums p).map D.int) (μ' := μ) (by simp) rfl (by simp; omega) fun d hd => ?_).trans (by rw [List.map_map]; rfl)
    obtain ⟨k, hk, rfl⟩ := List.mem_map.mp hd
    have e3 := over_spec (few_pts hq hP.le (atB k)) (le64 (part_le hq hP _)) μ
    have e4 := hc2 k (.fz (.lst ((nums p).map D.int)))
    refine ⟨[.fz (planD p), .fz (fr q), .fz (.lst ((pts p).map (pt3c q))), .fz (.lst ((nums p).map D.int)), .no, .no, .no, .fz (.int k)], rfl, ?_⟩
    have hT : trF q p (.int k) = .tup [.int k, fr (sumQ (((pts p).filter (atB k)).map (ptC q)))] := rfl
    rw [hT]
    generalize ((pts p).filter (atB k)).map (ptC q) = L at e3 e4
    simp only [ev_tup, ev_lCons, ev_lNil, ev_call, ev_var, List.getElem?_cons_succ, List.getElem?_cons_zero, slV_fz, ev_bind_ok, e4, e3]
    rfl
  have hs' : sortSetD [.lst (((pts p).map fun t => t.1).map D.int)] = some (.lst ((nums p).map D.int)) := hs
  generalize D.lst ((pts p).map (pt3c q)) = A at e1 hc1 hc3
  generalize D.lst (((pts p).map fun t => t.1).map D.int) = B at hc1 hs'
  generalize D.lst ((nums p).map D.int) = N at hs' hc3
  unfold g_trials_in F_trials_in
  simp [e1, hc1, hs', hc3, tupleD]
/-! ### what trials keep -/
theorem trQ_nn {q : Rat} (hq : RateOk q) {p : Plan} (hP : PlanOk p) (k : Int) : 0 ≤ trQ q p k := FR.sumQ_nn fun x hx => (few_pts hq hP.le (atB k)).nn x hx
theorem trQ_dv {q : Rat} (hq : RateOk q) {p : Plan} (hP : PlanOk p) (k : Int) : Dv (RR q p.length) (trQ q p k) := Dv.sum (RR_pos q _) fun x hx => (few_pts hq hP.le (atB k)).dv x hx
theorem trQ_le {q : Rat} (hq : RateOk q) {p : Plan} (hP : PlanOk p) (k : Int) : trQ q p k ≤ 1 := part_le hq hP _
theorem trQ_one {q : Rat} {p : Plan} (hP : PlanOk p) : sumQ ((nums p).map (trQ q p)) = 1 := by
  have h := FR.group_sum (fun t : Int × Int × Int => t.1) (ptC q) (nums_nd p) (pts p) fun t ht => nums_mem.mpr ⟨t, ht, rfl⟩
  rw [sum_pts_one hP] at h
  exact h
def meanQ (q : Rat) (p : Plan) : Rat := sumQ ((pts p).map fun t => (t.1 : Rat) * ptC q t)
theorem trQ_mean {q : Rat} {p : Plan} : sumQ ((nums p).map fun (k : Int) => (k : Rat) * trQ q p k) = meanQ q p :=
  FR.group_mul (fun t : Int × Int × Int => t.1) (ptC q) (nums_nd p) (pts p) fun t ht => nums_mem.mpr ⟨t, ht, rfl⟩
theorem ptC_pos {q : Rat} (hq : RateOk q) {p : Plan} (hp : p.length ≤ 40) {t : Int × Int × Int} (ht : t ∈ pts p) : 0 < ptC q t := by
  obtain ⟨m, u, l, h, w, hk⟩ := pts_all hp ht
  rw [ptC_eq hk]
  exact Rat.mul_pos (Rat.mul_pos (Rat.intCast_pos.mpr hk.pos) (Rat.pow_pos hq.pos)) (Rat.pow_pos (by have := hq.lt; grind))
theorem trQ_pos {q : Rat} (hq : RateOk q) {p : Plan} (hP : PlanOk p) {k : Int} (hk : k ∈ nums p) : 0 < trQ q p k := by
  obtain ⟨t, ht, rfl⟩ := nums_mem.mp hk
  have h1 := FR.sumQ_ge_mem (a := ((pts p).filter (atB t.1)).map (ptC q)) (fun x hx => (few_pts hq hP.le (atB t.1)).nn x hx) (x := ptC q t) (List.mem_map.mpr ⟨t, List.mem_filter.mpr ⟨ht, by unfold atB; simp⟩, rfl⟩)
  have h2 := ptC_pos hq hP.le ht
  have : ptC q t ≤ trQ q p t.1 := h1
  grind
theorem RR_60 {q : Rat} (h : RateOk q) {n : Nat} (hn : n ≤ 40) : RR q n < 1000000000000000000000000000000000000000000000000000000000000 := by
  unfold RR
  have h1 : q.den ^ n ≤ 30 ^ n := Nat.pow_le_pow_left h.den n
  have h2 : (30 : Nat) ^ n ≤ 30 ^ 40 := Nat.pow_le_pow_right (by decide) hn
  have h3 : (30 : Nat) ^ 40 < 1000000000000000000000000000000000000000000000000000000000000 := by decide
  omega
end K77
set_option Elab.async false
set_option linter.all false
set_option maxRecDepth 100000
set_option maxHeartbeats 2000000
namespace K77
open PySem DC
open FR (sumQ pc fr SzR Dv Few LowOk SumOk)
/-! ### chances as lists of values and fractions -/
abbrev Chs := List (Int × Rat)
def chD (c : Int × Rat) : D := .tup [.int c.1, fr c.2]
structure ChOk (R : Nat) (l : Chs) : Prop where
  pos : 0 < R
  lt : R < 1000000000000000000000000000000000000000000000000000000000000
  len0 : 1 ≤ l.length
  len : l.length ≤ 40
  asc : (l.map Prod.fst).Pairwise (· < ·)
  key : ∀ c, c ∈ l → -1000000 ≤ c.1 ∧ c.1 ≤ 1000000
  ch : ∀ c, c ∈ l → 0 < c.2 ∧ c.2 ≤ 1 ∧ Dv R c.2
  one : sumQ (l.map Prod.snd) = 1
theorem chD_pd (c : Int × Rat) (n : Nat) : D.pd (n + 3) (chD c) = true := by
  show (true && (D.pd (n + 2) (fr c.2) && true)) = true
  rw [fr_pd]; rfl
theorem G60_lt : (1000000000000000000000000000000000000000000000000000000000000 : Nat) < 2 ^ 201 := by decide
theorem few_ch {R : Nat} {l : Chs} (h : ChOk R l) : Few R 201 6 (l.map Prod.snd) where
  pos := h.pos
  lt := Nat.lt_trans h.lt G60_lt
  le := by decide
  dv := fun x hx => by
    obtain ⟨c, hc, rfl⟩ := List.mem_map.mp hx
    exact (h.ch c hc).2.2
  nn := fun x hx => by
    obtain ⟨c, hc, rfl⟩ := List.mem_map.mp hx
    exact Rat.le_of_lt (h.ch c hc).1
theorem is_share_spec {R : Nat} {l : Chs} (h : ChOk R l) {c : Int × Rat} (hc : c ∈ l) (μ : Store) : g_is_share [chD c] μ = .ok (.bl true) μ := by
  obtain ⟨k1, k2⟩ := h.key c hc
  obtain ⟨c1, c2, c3⟩ := h.ch c hc
  have e1 := is_tuple_spec (n := 3) (d := chD c) (lo := 2) (hi := 2) (chD_pd c 0) μ
  have e1' : tupB 2 2 (chD c) = true := rfl
  rw [e1'] at e1
  have e2 := is_whole_spec (n := 1) (d := .int c.1) (lo := -1000000) (hi := 1000000) rfl μ
  have e2' : wholeB (-1000000) 1000000 (.int c.1) = true := by
    show (true && (decide (-1000000 ≤ c.1) && decide (c.1 ≤ 1000000))) = true
    rw [decide_eq_true k1, decide_eq_true k2]; rfl
  rw [e2'] at e2
  have hd := c3.den h.pos
  have hlt := h.lt
  have e3 := fits_chance_spec (q := c.2) (Rat.le_of_lt c1) c2 (by omega) μ
  have i0 : ixS μ (chD c) (.int 0) = some (.int c.1) := rfl
  have i1 : ixS μ (chD c) (.int 1) = some (fr c.2) := rfl
  have n0 : 0 < c.2.num := by
    have h1 := (Rat.lt_iff 0 c.2).mp c1
    have e0 : (0 : Rat).num = 0 := rfl
    have e1 : (0 : Rat).den = 1 := rfl
    rw [e0, e1] at h1
    omega
  unfold g_is_share F_is_share
  simp [e1, i0, e2, i1, e3, FR.ix0, n0]
def zipLt : D → D
  | .tup [.int a, .int b] => .bl (decide (a < b))
  | _ => .non
theorem zip_slice (l : List Int) (hl : l.length ≤ 1000) (μ : Store) : wZipA (lCons (xVar 0) (lCons (xSl (xVar 0) (oSome (xC (.int 1))) oNone) lNil)) [.fz (.lst (l.map D.int)), .no, .no] μ = .ok (List.zipWith pairD (l.map D.int) ((l.map D.int).drop 1)) μ := by
  have hc : cutD (l.map D.int) (some 1) none = (l.map D.int).drop 1 := by
    cases l with
    | nil => rfl
    | cons x l => exact cutD_from (xs := (x :: l).map D.int) (k := 1) (by simp)
  have hs : slT (.lst (l.map D.int)) (some 1) none = some (.lst (cutD (l.map D.int) (some 1) none)) := rfl
  unfold wZipA
  simp [hs, hc]
theorem rising_spec {l : List Int} (h : l.Pairwise (· < ·)) (hl : l.length ≤ 1000) (μ : Store) : g_is_rising [.lst (l.map D.int)] μ = .ok (.bl true) μ := by
  have hz := zip_slice l hl μ
  have hall : ∀ d, d ∈ List.zipWith pairD (l.map D.int) ((l.map D.int).drop 1) → ∃ a b : Int, d = .tup [.int a, .int b] ∧ a < b := by
    clear hz hl
    induction l with
    | nil => intro d hd; simp at hd
    | cons x l ih =>
      intro d hd
      have h2 := List.pairwise_cons.mp h
      cases l with
      | nil => simp at hd
      | cons y l =>
        rcases List.mem_cons.mp (show d ∈ pairD (.int x) (.int y) :: List.zipWith pairD ((y :: l).map D.int) (((y :: l).map D.int).drop 1) from hd) with e | hd
        · exact ⟨x, y, e, h2.1 y (by simp)⟩
        · exact ih h2.2 d hd
  have hc : C_is_rising_1 [.fz (.lst (l.map D.int)), .no, .no] μ = .ok (.lst ((List.zipWith pairD (l.map D.int) ((l.map D.int).drop 1)).map fun _ => .bl true)) μ := by
    refine ev_lcT (h := fun _ => .bl true) (μ' := μ) hz rfl (by rw [List.length_zipWith]; simp; omega) fun d hd => ?_
    obtain ⟨a, b, rfl, hab⟩ := hall d hd
    exact ⟨_, rfl, by simp [wipeE, hab]⟩
  have ha := all_bl (f := fun _ => true) (List.zipWith pairD (l.map D.int) ((l.map D.int).drop 1))
  have ht : (List.zipWith pairD (l.map D.int) ((l.map D.int).drop 1)).all (fun _ => true) = true := List.all_eq_true.mpr fun _ _ => rfl
  rw [ht] at ha
  unfold g_is_rising F_is_rising
  generalize ((List.zipWith pairD (l.map D.int) ((l.map D.int).drop 1)).map fun _ => D.bl true) = Z at hc ha
  simp [hc, ha]
theorem eq_self (d : D) (h : D.pd 60 d = true) : eqD d d = some (.bl true) := by
  unfold eqD
  rw [h, eqv_refl 60 d h]
  rfl
theorem fits_chances_spec {R : Nat} {l : Chs} (h : ChOk R l) (μ : Store) : g_fits_chances [.tup (l.map chD)] μ = .ok (.bl true) μ := by
  have hlen := h.len
  have hlen0 := h.len0
  have hpd : D.pd 4 (.tup (l.map chD)) = true := by
    show (l.map chD).all (D.pd 3) = true
    rw [List.all_eq_true]
    intro x hx
    obtain ⟨c, _, rfl⟩ := List.mem_map.mp hx
    exact chD_pd c 0
  have e1 := is_tuple_spec (n := 4) (d := .tup (l.map chD)) (lo := 1) (hi := 40) hpd μ
  have e1' : tupB 1 40 (.tup (l.map chD)) = true := by
    rw [tupB_tup, List.length_map, decide_eq_true (by omega), decide_eq_true (by omega)]; rfl
  rw [e1'] at e1
  have hc1 : C_fits_chances_1 [.fz (.tup (l.map chD)), .no] μ = .ok (.lst ((l.map chD).map fun _ => .bl true)) μ := by
    refine ev_lcT (h := fun _ => .bl true) (ds := l.map chD) (μ' := μ) (by simp) rfl (by simp; omega) fun d hd => ?_
    obtain ⟨c, hc, rfl⟩ := List.mem_map.mp hd
    have e := is_share_spec h hc μ
    exact ⟨_, rfl, by simp [wipeE, e]⟩
  have ha := all_bl (f := fun _ => true) (l.map chD)
  have ht : (l.map chD).all (fun _ => true) = true := List.all_eq_true.mpr fun _ _ => rfl
  rw [ht] at ha
  have hc2 : C_fits_chances_2 [.fz (.tup (l.map chD)), .no] μ = .ok (.lst ((l.map Prod.fst).map D.int)) μ := by
    refine (ev_lcT (h := fun d => match d with
      | .tup [a, _] => a
      | _ => .non) (ds := l.map chD) (μ' := μ) (by simp) rfl (by simp; omega) fun d hd => ?_).trans (by rw [List.map_map, List.map_map]; rfl)
    obtain ⟨c, hc, rfl⟩ := List.mem_map.mp hd
    have i0 : ixS μ (chD c) (.int 0) = some (.int c.1) := rfl
    exact ⟨_, rfl, by simp [wipeE, i0]; rfl⟩
  have hc3 : C_fits_chances_3 [.fz (.tup (l.map chD)), .no] μ = .ok (.lst ((l.map Prod.snd).map fr)) μ := by
    refine (ev_lcT (h := fun d => match d with
      | .tup [_, b] => b
      | _ => .non) (ds := l.map chD) (μ' := μ) (by simp) rfl (by simp; omega) fun d hd => ?_).trans (by rw [List.map_map, List.map_map]; rfl)
    obtain ⟨c, hc, rfl⟩ := List.mem_map.mp hd
    have i1 : ixS μ (chD c) (.int 1) = some (fr c.2) := rfl
    exact ⟨_, rfl, by simp [wipeE, i1]; rfl⟩
  have hr := rising_spec (l := l.map Prod.fst) h.asc (by simp; omega) μ
  have hs := over_spec (few_ch h) (le64 (by rw [h.one]; exact Rat.le_refl)) μ
  rw [h.one] at hs
  have he := eq_self (fr 1) (fr_pd 1 58)
  have h1 : (.tup [.int 1, .int 1] : D) = fr 1 := rfl
  unfold g_fits_chances F_fits_chances
  generalize ((l.map chD).map fun _ => D.bl true) = Z at hc1 ha
  generalize D.lst ((l.map Prod.fst).map D.int) = A at hc2 hr
  generalize D.lst ((l.map Prod.snd).map fr) = B at hc3 hs
  simp [e1, hc1, ha, hc2, hr, hc3, hs, h1, he]
theorem are_spec {R : Nat} {l : Chs} (h : ChOk R l) (μ : Store) : g_are_chances [.tup (l.map chD)] μ = .ok (.bl true) μ := by
  have e := fits_chances_spec h μ
  unfold g_are_chances F_are_chances
  simp [e]
theorem need_ch {R : Nat} {l : Chs} (h : ChOk R l) (μ : Store) : g_need_chances [.tup (l.map chD)] μ = .ok .non μ := by
  have e := fits_chances_spec h μ
  unfold g_need_chances F_need_chances
  simp [e]
/-! ### means -/
structure MeanOk (R : Nat) (l : Chs) : Prop where
  pos : 0 < R
  lt : R < 2 ^ 201
  len : l.length ≤ 40
  key : ∀ c, c ∈ l → 0 ≤ c.1 ∧ c.1 ≤ 1000000
  ch : ∀ c, c ∈ l → 0 ≤ c.2 ∧ c.2 ≤ 1 ∧ Dv R c.2
def mnF : D → D
  | .tup [.int k, .tup [.int a, .int b]] => fr ((k : Rat) * Rat.divInt a b)
  | _ => .non
theorem mnF_chD (c : Int × Rat) : mnF (chD c) = fr ((c.1 : Rat) * c.2) := by
  show fr ((c.1 : Rat) * Rat.divInt c.2.num ((c.2.den : Nat) : Int)) = _
  rw [FR.divInt_fr]
theorem few_mean {R : Nat} {l : Chs} (h : MeanOk R l) : Few R 201 40 (l.map fun c => (c.1 : Rat) * c.2) where
  pos := h.pos
  lt := h.lt
  le := by decide
  dv := fun x hx => by
    obtain ⟨c, hc, rfl⟩ := List.mem_map.mp hx
    exact (h.ch c hc).2.2.scale _
  nn := fun x hx => by
    obtain ⟨c, hc, rfl⟩ := List.mem_map.mp hx
    exact Rat.mul_nonneg (Rat.intCast_nonneg.mpr (h.key c hc).1) (h.ch c hc).1
theorem mean_bd {R : Nat} {l : Chs} (h : MeanOk R l) : sumQ (l.map fun c => (c.1 : Rat) * c.2) ≤ ((2 ^ 40 : Nat) : Rat) := by
  have h1 := FR.sumQ_le_len (c := 1000000) (by decide) (a := l.map fun c => (c.1 : Rat) * c.2) fun x hx => by
    obtain ⟨c, hc, rfl⟩ := List.mem_map.mp hx
    have k := h.key c hc
    have k1 : (0 : Rat) ≤ (c.1 : Rat) := Rat.intCast_nonneg.mpr k.1
    have k2 : (c.1 : Rat) ≤ ((1000000 : Int) : Rat) := Rat.intCast_le_intCast.mpr k.2
    have e : ((1000000 : Int) : Rat) = 1000000 := rfl
    rw [e] at k2
    obtain ⟨c1, c2, _⟩ := h.ch c hc
    have := Rat.mul_le_mul_of_nonneg_left c2 k1
    grind
  rw [List.length_map] at h1
  have h2 : ((l.length : Nat) : Rat) ≤ ((40 : Nat) : Rat) := Rat.natCast_le_natCast.mpr h.len
  have e2 : ((40 : Nat) : Rat) = 40 := rfl
  have e3 : ((2 ^ 40 : Nat) : Rat) = 1099511627776 := rfl
  rw [e2] at h2
  rw [e3]
  grind
theorem mean_item {R : Nat} {l : Chs} (h : MeanOk R l) {c : Int × Rat} (hc : c ∈ l) (μ : Store) : mulD (.int c.1) (.int c.2.num) = some (.int (c.1 * c.2.num)) ∧ g_lowest [.int (c.1 * c.2.num), .int ((c.2.den : Nat) : Int)] μ = .ok (fr ((c.1 : Rat) * c.2)) μ ∧
    g__law_least [.int (c.1 * c.2.num), .int ((c.2.den : Nat) : Int)] μ = .ok (fr ((c.1 : Rat) * c.2)) μ := by
  obtain ⟨k1, k2⟩ := h.key c hc
  have hd := (h.ch c hc).2.2.den h.pos
  have hl := h.lt
  have hz : FR.Sz 8990 ((c.2.den : Nat) : Int) := FR.lt_pow (m := 201) (by show (((c.2.den : Nat) : Int)).natAbs < 2 ^ 201; rw [Int.natAbs_natCast]; omega) (by decide)
  refine ⟨ev_mul (mulOk_l (by omega)), ?_, ?_⟩
  · rw [low_ok _ _ μ (FR.den_pos _) hz, FR.scale_low]
  · rw [least_ok _ _ μ (FR.den_pos _) hz, FR.scale_low]
theorem mean_in_spec {R : Nat} {l : Chs} (h : MeanOk R l) (μ : Store) : g_mean_in [.tup (l.map chD)] μ = .ok (fr (sumQ (l.map fun c => (c.1 : Rat) * c.2))) μ := by
  have hlen := h.len
  have hc : C_mean_in_1 [.fz (.tup (l.map chD)), .no, .no] μ = .ok (.lst ((l.map fun c => (c.1 : Rat) * c.2).map fr)) μ := by
    refine (ev_lcT (h := mnF) (ds := l.map chD) (μ' := μ) (by simp) rfl (by simp; omega) fun d hd => ?_).trans ?_
    · obtain ⟨c, hc, rfl⟩ := List.mem_map.mp hd
      obtain ⟨e1, e2, _⟩ := mean_item h hc μ
      rw [mnF_chD]
      refine ⟨[.fz (.tup (l.map chD)), .fz (.int c.1), .fz (fr c.2)], rfl, ?_⟩
      simp [FR.ix0, FR.ix1, e1, e2]
    · rw [List.map_map, List.map_map]
      congr 2
      apply List.map_congr_left
      intro c _
      exact mnF_chD c
  have hs := over_spec (few_mean h) (mean_bd h) μ
  unfold g_mean_in F_mean_in
  generalize D.lst ((l.map fun c => (c.1 : Rat) * c.2).map fr) = A at hc hs
  simp [hc, hs]
theorem mean_of_spec {R R' : Nat} {l : Chs} (h : ChOk R l) (h' : MeanOk R' l) (μ : Store) : g_mean_of [.tup (l.map chD)] μ = .ok (fr (sumQ (l.map fun c => (c.1 : Rat) * c.2))) μ := by
  have e1 := need_ch h μ
  have e2 := mean_in_spec h' μ
  unfold g_mean_of F_mean_of
  simp [e1, e2]
end K77
set_option Elab.async false
set_option linter.all false
set_option maxRecDepth 100000
set_option maxHeartbeats 2000000
namespace K77
open PySem DC
open FR (sumQ pc fr SzR Dv Few LowOk SumOk)
/-! ### one point -/
abbrev lexT (a b : Int × Int × Int) : Prop := a.1 < b.1 ∨ a.1 = b.1 ∧ a.2.1 < b.2.1
theorem enumI_asc (r : List Int) : (enumI r).Pairwise fun a b => a.1 < b.1 := by
  have gen : ∀ (r : List Int) (s : Nat), (r.mapIdx fun u w => (u + s, w)).Pairwise fun a b => a.1 < b.1 := by
    intro r
    induction r with
    | nil => intro s; exact List.Pairwise.nil
    | cons w r ih =>
      intro s
      rw [List.mapIdx_cons]
      have e : (fun (i : Nat) (w : Int) => (i + 1 + s, w)) = fun (i : Nat) (w : Int) => (i + (s + 1), w) := by
        funext i w
        congr 1
        omega
      rw [e]
      refine List.pairwise_cons.mpr ⟨fun x hx => ?_, ih (s + 1)⟩
      rw [List.mem_mapIdx] at hx
      obtain ⟨i, hi, rfl⟩ := hx
      show 0 + s < i + (s + 1)
      omega
  exact gen r 0
theorem row_lex (k : Nat) (r : List Int) : (rowPts k r).Pairwise lexT := by
  unfold rowPts
  rw [List.pairwise_map]
  refine ((enumI_asc r).filter _).imp fun {a b} h => ?_
  right
  exact ⟨rfl, by show (a.1 : Int) < (b.1 : Int); omega⟩
theorem ptsT_lo {t : Int × Int × Int} : ∀ (rs : List (List Int)) (k : Nat), t ∈ ptsT k rs → (k : Int) + 1 ≤ t.1
  | [], k, h => by cases h
  | r :: rs, k, h => by
    rcases List.mem_append.mp (show t ∈ rowPts k r ++ ptsT (k + 1) rs from h) with h | h
    · unfold rowPts at h
      obtain ⟨e, _, rfl⟩ := List.mem_map.mp h
      exact Int.le_refl _
    · have := ptsT_lo rs (k + 1) h
      omega
theorem ptsT_lex : ∀ (rs : List (List Int)) (k : Nat), (ptsT k rs).Pairwise lexT
  | [], _ => List.Pairwise.nil
  | r :: rs, k => by
    show (rowPts k r ++ ptsT (k + 1) rs).Pairwise lexT
    refine List.pairwise_append.mpr ⟨row_lex k r, ptsT_lex rs (k + 1), fun a ha b hb => ?_⟩
    have h2 := ptsT_lo rs (k + 1) hb
    unfold rowPts at ha
    obtain ⟨e, _, rfl⟩ := List.mem_map.mp ha
    left
    show (k : Int) + 1 < b.1
    omega
def keyB (a b : Int) (t : Int × Int × Int) : Bool := decide (t.1 = a) && decide (t.2.1 = b)
theorem filter_key : ∀ {l : List (Int × Int × Int)}, l.Pairwise lexT → ∀ {t}, t ∈ l → l.filter (keyB t.1 t.2.1) = [t]
  | [], _, _, h => by cases h
  | x :: l, hp, t, h => by
    have h2 := List.pairwise_cons.mp hp
    have no : ∀ y, y ∈ l → ∀ z, z = x → keyB z.1 z.2.1 y = false := fun y hy z hz => by
      subst hz
      have := h2.1 y hy
      unfold keyB
      by_cases e : y.1 = z.1
      · rw [decide_eq_true e, Bool.true_and]
        exact decide_eq_false (by omega)
      · rw [decide_eq_false e]; rfl
    rcases List.mem_cons.mp h with e | h
    · subst e
      rw [List.filter_cons_of_pos (by unfold keyB; simp), List.filter_eq_nil_iff.mpr fun y hy => by rw [no y hy t rfl]; decide]
    · rw [List.filter_cons_of_neg, filter_key h2.2 h]
      have := h2.1 t h
      unfold keyB
      by_cases e : x.1 = t.1
      · rw [decide_eq_true e, Bool.true_and, decide_eq_false (by omega)]; decide
      · rw [decide_eq_false e, Bool.false_and]; decide
theorem eq_pair (a b c d : Int) : eqD (.tup [.int a, .int b]) (.tup [.int c, .int d]) = some (.bl (decide (a = c) && decide (b = d))) := by
  unfold eqD D.eqv
  simp [D.pd, D.toPy, D.toPyA, PyData.eqv, PyData.eqvAll]
  rfl
def wyF : D → D
  | .tup [_, _, w] => w
  | _ => .non
def kyF (a b : Int) : D → Bool
  | .tup [.int x, .int y, _] => decide (x = a) && decide (y = b)
  | _ => false
theorem ways_at_spec {p : Plan} (hp : p.length ≤ 40) {t : Int × Int × Int} (ht : t ∈ pts p) (μ : Store) : g_ways_at [planD p, .int t.1, .int t.2.1] μ = .ok (.int t.2.2) μ := by
  have hl := pts_len2 hp
  have hpt := points_spec hp μ
  have hc : C_ways_at_1 [.fz (planD p), .fz (.int t.1), .fz (.int t.2.1), .no, .no, .no] μ = .ok (.lst ([t.2.2].map D.int)) μ := by
    refine (ev_lc (p := kyF t.1 t.2.1) (h := wyF) (ds := (pts p).map pt3) (μ' := μ) (by simp [hpt]) rfl (by simp; omega) fun d hd => ?_).trans ?_
    · obtain ⟨x, hx, rfl⟩ := List.mem_map.mp hd
      refine ⟨_, rfl, ?_, fun _ => rfl⟩
      simp [wipeE, pt3, kyF, eq_pair]
    · rw [List.filter_map]
      have e : (kyF t.1 t.2.1 ∘ pt3) = keyB t.1 t.2.1 := rfl
      rw [e, filter_key (ptsT_lex _ 0) ht]
      rfl
  have hs := sumA_lst [t.2.2]
  unfold g_ways_at F_ways_at
  generalize D.lst ([t.2.2].map D.int) = Z at hc hs
  simp [hc, hs]
theorem need_point_spec {p : Plan} (hp : p.length ≤ 40) {t : Int × Int × Int} (ht : t ∈ pts p) (μ : Store) : g_need_end_point [planD p, .int t.1, .int t.2.1] μ = .ok .non μ := by
  obtain ⟨m, u, l, h, w, hk⟩ := pts_all hp ht
  have hm : m < p.length := (List.getElem?_eq_some_iff.mp hk.at_).1
  have hw := ways_at_spec hp ht μ
  have hle := hk.le
  have hpos := hk.pos
  have e0 : t.1 = ((m + 1 : Nat) : Int) := by rw [hk.eq]
  have e1 : t.2.1 = (u : Int) := by rw [hk.eq]
  have e2 : t.2.2 = w := by rw [hk.eq]
  have el : lenD [planD p] = some (.int (p.length : Nat)) := by
    show some (D.int ((p.map pairI).length : Nat)) = _
    rw [List.length_map]
  have w1 := is_whole_spec (n := 1) (d := .int t.1) (lo := 1) (hi := (p.length : Nat)) rfl μ
  have w1' : wholeB 1 (p.length : Nat) (.int t.1) = true := by
    show (true && (decide (1 ≤ t.1) && decide (t.1 ≤ ((p.length : Nat) : Int)))) = true
    rw [decide_eq_true (by omega), decide_eq_true (by omega)]; rfl
  rw [w1'] at w1
  have w2 := is_whole_spec (n := 1) (d := .int t.2.1) (lo := 0) (hi := t.1) rfl μ
  have w2' : wholeB 0 t.1 (.int t.2.1) = true := by
    show (true && (decide (0 ≤ t.2.1) && decide (t.2.1 ≤ t.1))) = true
    rw [decide_eq_true (by omega), decide_eq_true (by omega)]; rfl
  rw [w2'] at w2
  have ne : ¬ t.2.2 = 0 := by omega
  unfold g_need_end_point F_need_end_point
  simp [el, w1, w2, hw, ne]
theorem end_chance_spec {q : Rat} (hq : RateOk q) {p : Plan} (hP : PlanOk p) {t : Int × Int × Int} (ht : t ∈ pts p) (μ : Store) : g_end_chance [planD p, fr q, .int t.1, .int t.2.1] μ = .ok (fr (ptC q t)) μ := by
  have e1 := need_plan_at hq hP μ
  have e2 := need_point_spec hP.le ht μ
  have e3 := ways_at_spec hP.le ht μ
  have e4 := (point_chance_spec hq hP.le ht μ).1
  unfold g_end_chance F_end_chance
  simp [e1, e2, e3, e4]
/-! ### rows by what stands ahead of their end -/
def bR : Plan → List Int → List (List Int)
  | [], _ => []
  | (l, h) :: p, b => endL l h b :: bR p (stepH (openL l h b))
theorem ends_bR : ∀ (p : Plan) (a : List Int), endsT p a = bR p (stepH a)
  | [], _ => rfl
  | (l, h) :: p, a => by
    show endL l h (stepH a) :: endsT p (openL l h (stepH a)) = endL l h (stepH a) :: bR p (stepH (openL l h (stepH a)))
    rw [ends_bR p]
theorem stop_bR {q : Rat} {Φ : Nat → Nat → Rat} (hΦ : Mart q Φ) : ∀ (p : Plan) (b : List Int) (k : Nat), p ≠ [] → (∀ x, p.getLast? = some x → x.2 = x.1 + 1) → b.length = k + 2 →
    rowsW (fun t u => W q t u * Φ t u) k (bR p b) = wsum (fun u => W q (k + 1) u * Φ (k + 1) u) b
  | [], _, _, h, _, _ => absurd rfl h
  | [(l, h)], b, k, _, hl, hb => by
    have e : h = l + 1 := hl (l, h) rfl
    subst e
    show wsum _ (endL l (l + 1) b) + 0 = _
    have hz : wsum (fun u => W q (k + 1) u * Φ (k + 1) u) (openL l (l + 1) b) = 0 := wsum_zero _ fun x hx => by
      unfold openL at hx
      rw [List.mem_mapIdx] at hx
      obtain ⟨i, hi, e2⟩ := hx
      have hf : inB l (l + 1) i = false := by
        unfold inB
        by_cases h1 : l < (i : Int)
        · rw [decide_eq_true h1, decide_eq_false (by omega)]; rfl
        · rw [decide_eq_false h1]; rfl
      rw [hf] at e2
      exact e2.symm
    have hs := wsum_split l (l + 1) b fun u => W q (k + 1) u * Φ (k + 1) u
    rw [hz] at hs
    rw [← hs]; grind
  | (l, h) :: y :: p, b, k, _, hl, hb => by
    have ih := stop_bR hΦ (y :: p) (stepH (openL l h b)) (k + 1) (by simp) (fun x hx => hl x (by rw [List.getLast?_cons_cons]; exact hx)) (by rw [stepH_len, openL_len, hb])
    show wsum _ (endL l h b) + rowsW _ (k + 1) (bR (y :: p) (stepH (openL l h b))) = _
    rw [ih, mart_step hΦ (by rw [openL_len, hb]), ← wsum_split l h b]
    grind
end K77
set_option Elab.async false
set_option linter.all false
set_option maxRecDepth 100000
set_option maxHeartbeats 2000000
namespace K77
open PySem DC
open FR (sumQ pc fr SzR Dv Few LowOk SumOk)
/-! ### begun with an up -/
def bH : Plan → List Int → Nat → List Int
  | _, b, 0 => b
  | [], b, _ + 1 => b
  | (l, h) :: p, b, m + 1 => bH p (stepH (openL l h b)) m
theorem bR_at : ∀ (p : Plan) (b : List Int) (m : Nat) (l h : Int), p[m]? = some (l, h) → (bR p b)[m]? = some (endL l h (bH p b m))
  | [], _, _, _, _, e => by cases e
  | (l', h') :: p, b, 0, l, h, e => by cases e; rfl
  | (l', h') :: p, b, m + 1, l, h, e => by
    show (bR p (stepH (openL l' h' b)))[m]? = some (endL l h (bH p (stepH (openL l' h' b)) m))
    exact bR_at p _ m l h (by simpa using e)
theorem bH_len : ∀ (p : Plan) (b : List Int) (m : Nat), m ≤ p.length → (bH p b m).length = b.length + m
  | p, b, 0, _ => by cases p <;> rfl
  | [], b, m + 1, h => by simp at h
  | (l, h') :: p, b, m + 1, h => by
    show (bH p (stepH (openL l h' b)) m).length = _
    rw [bH_len p _ m (by simpa using h), stepH_len, openL_len]
    omega
/-- pointwise not more -/
def Dom (a b : List Int) : Prop := a.length = b.length ∧ ∀ (i : Nat) (x y : Int), a[i]? = some x → b[i]? = some y → 0 ≤ x ∧ x ≤ y
theorem dom_mask {a b : List Int} (c : Nat → Bool) (h : Dom a b) : Dom (a.mapIdx fun u w => if c u then w else 0) (b.mapIdx fun u w => if c u then w else 0) := by
  refine ⟨by simp [h.1], fun i x y hx hy => ?_⟩
  rw [List.getElem?_mapIdx] at hx hy
  obtain ⟨x', e1, e2⟩ := Option.map_eq_some_iff.mp hx
  obtain ⟨y', e3, e4⟩ := Option.map_eq_some_iff.mp hy
  have := h.2 i x' y' e1 e3
  cases hc : c i
  · rw [hc] at e2 e4
    have z1 : (0 : Int) = x := e2
    have z2 : (0 : Int) = y := e4
    omega
  · rw [hc] at e2 e4
    have z1 : x' = x := e2
    have z2 : y' = y := e4
    omega
theorem dom_step {a b : List Int} (h : Dom a b) : Dom (stepH a) (stepH b) := by
  refine ⟨by rw [stepH_len, stepH_len, h.1], fun i x y hx hy => ?_⟩
  unfold stepH at hx hy
  rw [List.getElem?_zipWith] at hx hy
  have g1 : ∀ (x' y' : Int), (a ++ [0])[i]? = some x' → (b ++ [0])[i]? = some y' → 0 ≤ x' ∧ x' ≤ y' := fun x' y' e1 e2 => by
    by_cases hi : i < a.length
    · rw [List.getElem?_append_left hi] at e1
      rw [List.getElem?_append_left (by rw [← h.1]; exact hi)] at e2
      exact h.2 i x' y' e1 e2
    · rw [List.getElem?_append_right (by omega)] at e1
      rw [List.getElem?_append_right (by rw [← h.1]; omega)] at e2
      rw [h.1] at e1
      rw [e1] at e2
      have : x' = 0 := by
        have := List.mem_of_getElem? e1
        simpa using this
      cases e2
      omega
  have g2 : ∀ (x' y' : Int), (0 :: a)[i]? = some x' → (0 :: b)[i]? = some y' → 0 ≤ x' ∧ x' ≤ y' := fun x' y' e1 e2 => by
    cases i with
    | zero => cases e1; cases e2; omega
    | succ i => exact h.2 i x' y' (by simpa using e1) (by simpa using e2)
  cases e1 : (a ++ [0])[i]? with
  | none => rw [e1] at hx; cases hx
  | some p1 =>
    cases e2 : (0 :: a)[i]? with
    | none => rw [e1, e2] at hx; cases hx
    | some p2 =>
      cases e3 : (b ++ [0])[i]? with
      | none => rw [e3] at hy; cases hy
      | some q1 =>
        cases e4 : (0 :: b)[i]? with
        | none => rw [e3, e4] at hy; cases hy
        | some q2 =>
          rw [e1, e2] at hx
          rw [e3, e4] at hy
          have hx' : p1 + p2 = x := Option.some.inj hx
          have hy' : q1 + q2 = y := Option.some.inj hy
          have := g1 _ _ e1 e3
          have := g2 _ _ e2 e4
          omega
theorem dom_open {a b : List Int} (l h : Int) (hd : Dom a b) : Dom (openL l h a) (openL l h b) := dom_mask (inB l h) hd
theorem dom_end {a b : List Int} (l h : Int) (hd : Dom a b) : Dom (endL l h a) (endL l h b) := by
  have e : ∀ c : List Int, endL l h c = c.mapIdx fun u w => if !inB l h u then w else 0 := fun c => by
    unfold endL
    congr 1
    funext u w
    cases inB l h u <;> rfl
  rw [e, e]
  exact dom_mask _ hd
/-- a value by two lists of one length: where the row is zero, so is the other -/
theorem row_b (F : Nat → Nat → Rat) (k : Nat) : ∀ (r b : List Int), Dom b r → sumQ ((rowPts k r).map fun t => ((b.getD t.2.1.toNat 0 : Int) : Rat) * F t.1.toNat t.2.1.toNat) = wsum (F (k + 1)) b := by
  have gen : ∀ (r b : List Int) (s : Nat) (β : Nat → Int), Dom b r → (∀ i, i < b.length → β (s + i) = b.getD i 0) → sumQ ((((r.mapIdx fun u w => (u + s, w)).filter fun e => decide (0 < e.2)).map fun e => ((k : Int) + 1, (e.1 : Int), e.2)).map fun t => ((β t.2.1.toNat : Int) : Rat) * F t.1.toNat t.2.1.toNat) = wsum (fun u => F (k + 1) (u + s)) b := by
    intro r
    induction r with
    | nil =>
      intro b s β hd _
      have : b = [] := List.eq_nil_of_length_eq_zero hd.1
      subst this
      rfl
    | cons w r ih =>
      intro b s β hd hβ
      cases b with
      | nil => have := hd.1; simp at this
      | cons x b =>
        have hb := hd.2 0 x w rfl rfl
        have ih' := ih b (s + 1) β ⟨by have := hd.1; simpa using this, fun i x y e1 e2 => hd.2 (i + 1) x y (by simpa using e1) (by simpa using e2)⟩ fun i hi => by
          have := hβ (i + 1) (by simp; omega)
          rw [show s + 1 + i = s + (i + 1) by omega, this]
          rfl
        have hβ0 : β s = x := by
          have := hβ 0 (by simp)
          simpa using this
        rw [List.mapIdx_cons]
        have e : (fun (i : Nat) (w : Int) => (i + 1 + s, w)) = fun (i : Nat) (w : Int) => (i + (s + 1), w) := by
          funext i w
          congr 1
          omega
        rw [e]
        have e2 : wsum (fun u => F (k + 1) (u + s)) (x :: b) = (x : Rat) * F (k + 1) s + wsum (fun u => F (k + 1) (u + (s + 1))) b := by
          show (x : Rat) * F (k + 1) (0 + s) + wsum (fun u => F (k + 1) (u + 1 + s)) b = _
          rw [Nat.zero_add]
          congr 2
          funext u
          rw [show u + 1 + s = u + (s + 1) by omega]
        rw [e2, ← ih']
        by_cases h0 : 0 < w
        · rw [List.filter_cons_of_pos (by simpa using h0), List.map_cons, List.map_cons]
          show ((β (((0 + s : Nat) : Int)).toNat : Int) : Rat) * F ((k : Int) + 1).toNat (((0 + s : Nat) : Int)).toNat + sumQ _ = _
          rw [Int.toNat_natCast, Nat.zero_add, show ((k : Int) + 1).toNat = k + 1 by omega, hβ0]
        · rw [List.filter_cons_of_neg (by simpa using h0)]
          have : x = 0 := by omega
          rw [this]
          have z : ((0 : Int) : Rat) = 0 := rfl
          rw [z]; grind
  intro r b hd
  exact gen r b 0 (fun u => b.getD u 0) hd fun i _ => by rw [Nat.zero_add]
theorem pts_b (F : Nat → Nat → Rat) (β : Nat → Nat → Int) : ∀ (p : Plan) (b c : List Int) (k : Nat), Dom b c → (∀ m u l h, p[m]? = some (l, h) → β (k + m) u = (endL l h (bH p b m)).getD u 0) →
    sumQ ((ptsT k (bR p c)).map fun t => ((β (t.1 - 1).toNat t.2.1.toNat : Int) : Rat) * F t.1.toNat t.2.1.toNat) = rowsW F k (bR p b)
  | [], _, _, _, _, _ => rfl
  | (l, h) :: p, b, c, k, hd, hβ => by
    have ih := pts_b F β p (stepH (openL l h b)) (stepH (openL l h c)) (k + 1) (dom_step (dom_open l h hd)) fun m u l' h' e => by
      have := hβ (m + 1) u l' h' (by simpa using e)
      rw [show k + 1 + m = k + (m + 1) by omega, this]
      rfl
    show sumQ ((rowPts k (endL l h c) ++ ptsT (k + 1) (bR p (stepH (openL l h c)))).map _) = wsum (F (k + 1)) (endL l h b) + rowsW F (k + 1) (bR p (stepH (openL l h b)))
    rw [List.map_append, FR.sumQ_app, ih, ← row_b F k _ _ (dom_end l h hd)]
    congr 2
    apply List.map_congr_left
    intro t ht
    have h1 : t.1 = (k : Int) + 1 := by
      unfold rowPts at ht
      obtain ⟨e, _, rfl⟩ := List.mem_map.mp ht
      rfl
    have h2 := hβ 0 t.2.1.toNat l h rfl
    rw [show (t.1 - 1).toNat = k + 0 by omega, h2]
    rfl
def bgT (p : Plan) (m u : Nat) : Int := match p[m]? with
  | some (l, h) => (endL l h (bH p [0, 1] m)).getD u 0
  | none => 0
theorem begun_sum {q : Rat} {p : Plan} (hP : PlanOk p) : sumQ ((pts p).map fun t => ((bgT p (t.1 - 1).toNat t.2.1.toNat : Int) : Rat) * W q t.1.toNat t.2.1.toNat) = q := by
  have hd : Dom [0, 1] (stepH [1]) := ⟨rfl, fun i x y hx hy => by
    match i with
    | 0 => cases hx; cases hy; decide
    | 1 => cases hx; cases hy; decide
    | i + 2 => simp at hx⟩
  have h := pts_b (W q) (bgT p) p [0, 1] (stepH [1]) 0 hd fun m u l h e => by
    unfold bgT
    rw [Nat.zero_add, e]
  rw [← ends_bR] at h
  have h2 := stop_bR (mart_one q) p [0, 1] 0 (plan_ne hP) hP.last rfl
  have h3 : rowsW (W q) 0 (bR p [0, 1]) = q := by
    have e1 : (fun t u => W q t u * (1 : Rat)) = W q := by
      funext t u; grind
    rw [e1] at h2
    rw [h2]
    show ((0 : Int) : Rat) * (W q (0 + 1) 0 * 1) + (((1 : Int) : Rat) * (W q (0 + 1) (0 + 1) * 1) + 0) = q
    have z0 : ((0 : Int) : Rat) = 0 := rfl
    have z1 : ((1 : Int) : Rat) = 1 := rfl
    rw [z0, z1]
    unfold W
    grind
  rw [h3] at h
  exact h
end K77
set_option Elab.async false
set_option linter.all false
set_option maxRecDepth 100000
set_option maxHeartbeats 2000000
namespace K77
open PySem DC
open FR (sumQ pc fr SzR Dv Few LowOk SumOk)
/-! ### share_begun -/
section
variable {pl many ups found at_ : D} {l h : Int} {a : List Int} {s3 s5 s6 s7 : Sl} {μ : Store}
theorem sb_c1 (ha : a.length ≤ 1000) {s0 s1 s2 : Sl} : C_share_begun_1 [s0, s1, s2, s3, .fz (intsD a), s5, s6, s7, .no, .no, .no, .no] μ = .ok (intsD (stepH a)) μ := by
  have e0 : a.map D.int ++ [D.int 0] = (a ++ [0]).map D.int := by simp
  have e1 : D.int 0 :: a.map D.int = (0 :: a).map D.int := by simp
  have hs : wZipA (lCons (xBin addD (xVar 4) (xLst (lCons (xC (.int 0)) lNil))) (lCons (xBin addD (xLst (lCons (xC (.int 0)) lNil)) (xVar 4)) lNil)) [s0, s1, s2, s3, .fz (intsD a), s5, s6, s7, .no, .no, .no, .no] μ
      = .ok (List.zipWith pairD ((a ++ [0]).map D.int) ((0 :: a).map D.int)) μ := by
    unfold wZipA
    have h1 := addL_ok (xs := a.map D.int) (ys := [.int 0]) (by simp; omega)
    have h2 := addL_ok (xs := [.int 0]) (ys := a.map D.int) (by simp; omega)
    simp [intsD, h1, h2]
  refine (ev_lcT (h := sumF) hs rfl (by simp; omega) fun d hd => ?_).trans ?_
  · obtain ⟨x, y, rfl⟩ := zip_mem hd
    exact ⟨_, rfl, by simp [wipeE, sumF]⟩
  · rw [zip_map (fun x y => rfl)]
    rfl
theorem sb_c2 (ha : a.length ≤ 1000) {s0 s1 s2 : Sl} : C_share_begun_2 [s0, s1, s2, s3, .fz (intsD a), s5, .fz (.int l), .fz (.int h), .no, .no, .no, .no] μ = .ok (intsD (openL l h a)) μ := by
  have hs : wEnumA (xVar 4) [s0, s1, s2, s3, .fz (intsD a), s5, .fz (.int l), .fz (.int h), .no, .no, .no, .no] μ = .ok (enumD (a.map D.int)) μ := by
    unfold wEnumA
    simp [intsD]
  refine (ev_lcT (h := inF l h true) hs rfl (by rw [enumD_len]; simp; omega) fun d hd => ?_).trans ?_
  · obtain ⟨i, w, rfl⟩ := enum_mem hd
    refine ⟨_, rfl, ?_⟩
    by_cases h1 : l < (i : Int) <;> by_cases h2 : (i : Int) < h <;> simp [wipeE, inF, h1, h2]
  · rw [enum_map (f := fun u w => if inB l h u then w else 0) fun i w => ?_]
    · rfl
    · unfold inF inB
      by_cases h1 : l < (i : Int) <;> by_cases h2 : (i : Int) < h <;> simp [h1, h2]
end
theorem ix_ints {a : List Int} {u : Nat} (h : u < a.length) (μ : Store) : ixS μ (intsD a) (.int (u : Nat)) = some (.int (a.getD u 0)) := by
  show L2.atI (a.map D.int) (u : Nat) = _
  refine L2.atI_nat ?_
  rw [List.getElem?_map, List.getD_eq_getElem?_getD, List.getElem?_eq_getElem h]
  rfl
/-- the later turns: o is open behind the trial before -/
theorem sb_loop {P : Plan} {many u : Nat} {μ : Store} (hm : many ≤ P.length) (hP : P.length ≤ 40) : ∀ (n k : Nat) (o : List Int) (f : D) (s5 s6 s7 : Sl), 1 ≤ k → k + n = many → o.length = k + 1 → u ≤ many →
    ∃ s4' s5' s6' s7', sForL (gN 5) L_share_begun_3 (rngI (k : Nat) n) [.fz (planD P), .fz (.int (many : Nat)), .fz (.int (u : Nat)), .fz f, .fz (intsD o), s5, s6, s7, .no, .no, .no, .no] μ =
      .nx [.fz (planD P), .fz (.int (many : Nat)), .fz (.int (u : Nat)), .fz (if n = 0 then f else .int ((bH (P.drop k) (stepH o) (n - 1)).getD u 0)), s4', s5', s6', s7', .no, .no, .no, .no] μ
  | 0, k, o, f, s5, s6, s7, _, _, _, _ => ⟨_, s5, s6, s7, rfl⟩
  | n + 1, k, o, f, s5, s6, s7, hk, hkn, ho, hu => by
    obtain ⟨x, hx, hdrop⟩ := drop_cons (P := P) (k := k) (by omega)
    obtain ⟨l, h⟩ := x
    have hix := ix_plan hx μ
    have c1 := sb_c1 (a := o) (by omega) (s0 := .fz (planD P)) (s1 := .fz (.int (many : Nat))) (s2 := .fz (.int (u : Nat))) (s3 := .fz f) (s5 := .fz (.int (k : Nat))) (s6 := .fz (.int l)) (s7 := .fz (.int h)) (μ := μ)
    have hk0 : (0 : Int) < (k : Nat) := by omega
    have ek : ((k : Nat) : Int) + 1 = ((k + 1 : Nat) : Int) := by omega
    have hsl : (stepH o).length = k + 2 := by rw [stepH_len, ho]
    by_cases hn : n = 0
    · subst hn
      have c2 := fun f' => sb_c2 (a := stepH o) (by omega) (s0 := .fz (planD P)) (s1 := .fz (.int (many : Nat))) (s2 := .fz (.int (u : Nat))) (s3 := .fz f') (s5 := .fz (.int (k : Nat))) (l := l) (h := h) (μ := μ)
      have i1 := ix_ints (a := stepH o) (u := u) (by omega) μ
      have hkm : ((k : Nat) : Int) = (many : Nat) - 1 := by omega
      refine ⟨.fz (intsD (openL l h (stepH o))), .fz (.int (k : Nat)), .fz (.int l), .fz (.int h), ?_⟩
      show sForL _ _ (.int (k : Nat) :: rngI ((k : Nat) + 1) 0) _ μ = _
      rw [forL_cons (ρ1 := [.fz (planD P), .fz (.int (many : Nat)), .fz (.int (u : Nat)), .fz f, .fz (intsD o), .fz (.int (k : Nat)), s6, s7, .no, .no, .no, .no]) (ρ2 := [.fz (planD P), .fz (.int (many : Nat)), .fz (.int (u : Nat)), .fz (.int ((stepH o).getD u 0)), .fz (intsD (openL l h (stepH o))), .fz (.int (k : Nat)), .fz (.int l), .fz (.int h), .no, .no, .no, .no]) (μ2 := μ) rfl ?_]
      · have e : (bH (P.drop k) (stepH o) (0 + 1 - 1)).getD u 0 = (stepH o).getD u 0 := by
          rw [hdrop]; rfl
        rw [if_neg (by omega), e]
        rfl
      · have hq : eqD (.int (k : Nat)) (.int ((many : Nat) - 1)) = some (.bl true) := by rw [ev_eqII, decide_eq_true hkm]
        have hkp : 0 < k := hk
        simp [-ev_eqII, hix, pairI, hkp, c1, hq, i1, c2]
    · have c2 := sb_c2 (a := stepH o) (by omega) (s0 := .fz (planD P)) (s1 := .fz (.int (many : Nat))) (s2 := .fz (.int (u : Nat))) (s3 := .fz f) (s5 := .fz (.int (k : Nat))) (l := l) (h := h) (μ := μ)
      obtain ⟨s4', s5', s6', s7', e⟩ := sb_loop hm hP (u := u) (μ := μ) n (k + 1) (openL l h (stepH o)) f (.fz (.int (k : Nat))) (.fz (.int l)) (.fz (.int h)) (by omega) (by omega) (by rw [openL_len, hsl]) hu
      refine ⟨s4', s5', s6', s7', ?_⟩
      have hkm : ¬ ((k : Nat) : Int) = (many : Nat) - 1 := by omega
      show sForL _ _ (.int (k : Nat) :: rngI ((k : Nat) + 1) n) _ μ = _
      rw [forL_cons (ρ1 := [.fz (planD P), .fz (.int (many : Nat)), .fz (.int (u : Nat)), .fz f, .fz (intsD o), .fz (.int (k : Nat)), s6, s7, .no, .no, .no, .no]) (ρ2 := [.fz (planD P), .fz (.int (many : Nat)), .fz (.int (u : Nat)), .fz f, .fz (intsD (openL l h (stepH o))), .fz (.int (k : Nat)), .fz (.int l), .fz (.int h), .no, .no, .no, .no]) (μ2 := μ) rfl ?_, ek, e]
      · have e3 : bH (P.drop k) (stepH o) (n + 1 - 1) = bH (P.drop (k + 1)) (stepH (openL l h (stepH o))) (n - 1) := by
          rw [hdrop]
          obtain ⟨j, rfl⟩ : ∃ j, n = j + 1 := ⟨n - 1, by omega⟩
          rfl
        rw [if_neg hn, if_neg (by omega), e3]
      · have hkp : 0 < k := hk
        simp [hix, pairI, hkp, c1, hkm, c2]
theorem divInt_sz {a b : Int} {n : Nat} (h0 : 0 ≤ a) (ha : a < 2 ^ n) (h1 : 0 < b) (hb : b < 2 ^ n) : SzR n (Rat.divInt a b) := by
  have e1 := FR.num_of (a := a) h1
  have e2 := FR.den_of (a := a) h1
  have hg := FR.gcd_pos (a := a) h1
  have l1 : a / (Int.gcd a b : Int) ≤ a := Int.ediv_le_self _ h0
  have l2 : b / (Int.gcd a b : Int) ≤ b := Int.ediv_le_self _ (by omega)
  have l3 : 0 ≤ a / (Int.gcd a b : Int) := Int.ediv_nonneg h0 (by omega)
  have hp : ((2 ^ n : Nat) : Int) = 2 ^ n := Int.natCast_pow 2 n
  refine ⟨?_, ?_⟩
  · show (Rat.divInt a b).num.natAbs < 2 ^ n
    rw [e1]; omega
  · have : (((Rat.divInt a b).den : Nat) : Int) < ((2 ^ n : Nat) : Int) := by rw [e2, hp]; omega
    omega
/-- what begins with an up is not more than all -/
theorem bg_bd {p : Plan} (hp : p.length ≤ 40) {t : Int × Int × Int} {m u : Nat} {l h w : Int} (hk : PtOk p t m u l h w) (ht : t ∈ pts p) : 0 ≤ bgT p m u ∧ bgT p m u ≤ w ∧ bgT p m u = (bH p [0, 1] m).getD u 0 := by
  have hm : m < p.length := (List.getElem?_eq_some_iff.mp hk.at_).1
  have hd : ∀ (p : Plan) (b c : List Int) (m : Nat), Dom b c → Dom (bH p b m) (bH p c m) := by
    intro p
    induction p with
    | nil => intro b c m h; cases m <;> exact h
    | cons x p ih =>
      obtain ⟨l, h⟩ := x
      intro b c m hd
      cases m with
      | zero => exact hd
      | succ m => exact ih _ _ m (dom_step (dom_open l h hd))
  have hd0 : Dom [0, 1] (stepH [1]) := ⟨rfl, fun i x y hx hy => by
    match i with
    | 0 => cases hx; cases hy; decide
    | 1 => cases hx; cases hy; decide
    | i + 2 => simp at hx⟩
  have hdm := hd p [0, 1] (stepH [1]) m hd0
  have hle := hk.le
  have hlen1 := bH_len p [0, 1] m (by omega)
  have hlen2 := bH_len p (stepH [1]) m (by omega)
  rw [stepH_len] at hlen2
  simp at hlen1 hlen2
  have hu1 : u < (bH p [0, 1] m).length := by omega
  have hu2 : u < (bH p (stepH [1]) m).length := by omega
  have hb := hdm.2 u _ _ (List.getElem?_eq_getElem hu1) (List.getElem?_eq_getElem hu2)
  have hin : inB l h u = false := by
    unfold inB
    rcases hk.out with z | z
    · rw [decide_eq_false (by omega)]; rfl
    · rw [decide_eq_false (show ¬ (u : Int) < h by omega), Bool.and_false]
  have hbg : bgT p m u = (bH p [0, 1] m).getD u 0 := by
    unfold bgT
    rw [hk.at_]
    show (endL l h (bH p [0, 1] m)).getD u 0 = _
    unfold endL
    rw [List.getD_eq_getElem?_getD, List.getElem?_mapIdx, List.getElem?_eq_getElem hu1, List.getD_eq_getElem?_getD, List.getElem?_eq_getElem hu1]
    show (if inB l h u then 0 else (bH p [0, 1] m)[u]) = _
    rw [hin]; rfl
  have hx : (bH p [0, 1] m).getD u 0 = (bH p [0, 1] m)[u] := by
    rw [List.getD_eq_getElem?_getD, List.getElem?_eq_getElem hu1]; rfl
  -- the point's ways stand in the row
  have hw : (bH p (stepH [1]) m)[u] = w := by
    have hrow := bR_at p (stepH [1]) m l h hk.at_
    rw [← ends_bR] at hrow
    have gen : ∀ (rs : List (List Int)) (k : Nat), t ∈ ptsT k rs → ∃ r, rs[(t.1 - 1).toNat - k]? = some r ∧ r[t.2.1.toNat]? = some t.2.2 := by
      intro rs
      induction rs with
      | nil => intro k h; cases h
      | cons r rs ih =>
        intro k h
        rcases List.mem_append.mp (show t ∈ rowPts k r ++ ptsT (k + 1) rs from h) with h | h
        · unfold rowPts at h
          obtain ⟨e, he, rfl⟩ := List.mem_map.mp h
          have he1 := (List.mem_filter.mp he).1
          unfold enumI at he1
          rw [List.mem_mapIdx] at he1
          obtain ⟨i, hi, rfl⟩ := he1
          refine ⟨r, ?_, ?_⟩
          · show (r :: rs)[((k : Int) + 1 - 1).toNat - k]? = some r
            rw [show ((k : Int) + 1 - 1).toNat - k = 0 by omega]; rfl
          · show r[((i : Nat) : Int).toNat]? = some r[i]
            rw [Int.toNat_natCast]
            exact List.getElem?_eq_getElem hi
        · have hlo := ptsT_lo rs (k + 1) h
          obtain ⟨r', e1, e2⟩ := ih (k + 1) h
          refine ⟨r', ?_, e2⟩
          rw [show (t.1 - 1).toNat - k = ((t.1 - 1).toNat - (k + 1)) + 1 by omega]
          exact e1
    obtain ⟨r, e1, e2⟩ := gen _ 0 ht
    rw [hk.eq] at e1 e2
    have e3 : ((((m + 1 : Nat) : Int) - 1).toNat - 0) = m := by omega
    have e1' : (endsT p [1])[m]? = some r := by
      have : (endsT p [1])[((((m + 1 : Nat) : Int) - 1).toNat - 0)]? = some r := e1
      rw [e3] at this
      exact this
    rw [hrow] at e1'
    cases e1'
    have e2' : (endL l h (bH p (stepH [1]) m))[((u : Int)).toNat]? = some w := e2
    rw [Int.toNat_natCast] at e2'
    unfold endL at e2'
    rw [List.getElem?_mapIdx, List.getElem?_eq_getElem hu2] at e2'
    have e4 : (if inB l h u then 0 else (bH p (stepH [1]) m)[u]) = w := Option.some.inj e2'
    rw [hin] at e4
    exact e4
  rw [hbg, hx]
  rw [hw] at hb
  exact ⟨hb.1, hb.2, rfl⟩
end K77
set_option Elab.async false
set_option linter.all false
set_option maxRecDepth 100000
set_option maxHeartbeats 2000000
namespace K77
open PySem DC
open FR (sumQ pc fr SzR Dv Few LowOk SumOk)
theorem bH_one (l h : Int) (p : Plan) (b : List Int) (m : Nat) : bH ((l, h) :: p) b (m + 1) = bH p (stepH (openL l h b)) m := rfl
theorem share_begun_spec {p : Plan} (hp : p.length ≤ 40) {t : Int × Int × Int} {m u : Nat} {l h w : Int} (hk : PtOk p t m u l h w) (ht : t ∈ pts p) (μ : Store) : g_share_begun [planD p, .int t.1, .int t.2.1] μ = .ok (fr (Rat.divInt (bgT p m u) w)) μ := by
  have hm : m < p.length := (List.getElem?_eq_some_iff.mp hk.at_).1
  obtain ⟨b0, b1, b2⟩ := bg_bd hp hk ht
  have hw := ways_at_spec hp ht μ
  have hle := hk.le
  have hpos := hk.pos
  have hlt := hk.lt
  have e0 : t.1 = ((m + 1 : Nat) : Int) := by rw [hk.eq]
  have e1 : t.2.1 = (u : Int) := by rw [hk.eq]
  have e2 : t.2.2 = w := by rw [hk.eq]
  rw [e0, e1, e2] at hw
  rw [e0, e1, b2]
  rw [b2] at b0 b1
  have elow := low_ok ((bH p [0, 1] m).getD u 0) w μ hpos (by show w.natAbs < 2 ^ 8990; exact FR.lt_pow (m := 41) (by omega) (by decide))
  have hr := rgOk_int (i := ((m + 1 : Nat) : Int)) (by omega) (by omega)
  cases p with
  | nil => simp at hm
  | cons x p' =>
    obtain ⟨l0, h0⟩ := x
    have hix := ix_plan (P := (l0, h0) :: p') (k := 0) rfl μ
    have hs : ∀ s5 s6 s7, iRg1 (lCons (xVar 1) lNil) [.fz (planD ((l0, h0) :: p')), .fz (.int ((m + 1 : Nat) : Int)), .fz (.int (u : Nat)), .fz (.int 0), .fz (intsD [0, 1]), s5, s6, s7, .no, .no, .no, .no] μ = .ok (rngI 0 (m + 1)) μ := by
      intro s5 s6 s7
      unfold iRg1
      generalize hK : ((m + 1 : Nat) : Int) = K at hr ⊢
      have hT : K.toNat = m + 1 := by omega
      simp [hr, rangeD_rng, hT]
    have hz : decide ((0 : Int) < 0) = false := rfl
    have c2 := fun f' => sb_c2 (a := [0, 1]) (by decide) (s0 := .fz (planD ((l0, h0) :: p'))) (s1 := .fz (.int ((m + 1 : Nat) : Int))) (s2 := .fz (.int (u : Nat))) (s3 := .fz f') (s5 := .fz (.int 0)) (l := l0) (h := h0) (μ := μ)
    have i1 : u < 2 → ixS μ (intsD [0, 1]) (.int (u : Nat)) = some (.int ([0, 1].getD u 0)) := fun hu => ix_ints (a := [0, 1]) (u := u) hu μ
    have hloop : ∃ s4 s5 s6 s7, sForL (gN 5) L_share_begun_3 (rngI 0 (m + 1)) [.fz (planD ((l0, h0) :: p')), .fz (.int ((m + 1 : Nat) : Int)), .fz (.int (u : Nat)), .fz (.int 0), .fz (intsD [0, 1]), .no, .no, .no, .no, .no, .no, .no] μ =
        .nx [.fz (planD ((l0, h0) :: p')), .fz (.int ((m + 1 : Nat) : Int)), .fz (.int (u : Nat)), .fz (.int ((bH ((l0, h0) :: p') [0, 1] m).getD u 0)), s4, s5, s6, s7, .no, .no, .no, .no] μ := by
      cases m with
      | zero =>
        refine ⟨.fz (intsD (openL l0 h0 [0, 1])), .fz (.int 0), .fz (.int l0), .fz (.int h0), ?_⟩
        show sForL _ _ (.int 0 :: rngI (0 + 1) 0) _ μ = _
        have hq : eqD (.int 0) (.int (((0 + 1 : Nat) : Int) - 1)) = some (.bl true) := by rw [ev_eqII]; rfl
        rw [forL_cons (ρ1 := [.fz (planD ((l0, h0) :: p')), .fz (.int ((0 + 1 : Nat) : Int)), .fz (.int (u : Nat)), .fz (.int 0), .fz (intsD [0, 1]), .fz (.int 0), .no, .no, .no, .no, .no, .no]) (ρ2 := [.fz (planD ((l0, h0) :: p')), .fz (.int ((0 + 1 : Nat) : Int)), .fz (.int (u : Nat)), .fz (.int ([0, 1].getD u 0)), .fz (intsD (openL l0 h0 [0, 1])), .fz (.int 0), .fz (.int l0), .fz (.int h0), .no, .no, .no, .no]) (μ2 := μ) rfl ?_]
        · rfl
        · have hix' : ixS μ (planD ((l0, h0) :: p')) (.int 0) = some (pairI (l0, h0)) := hix
          have i1' := i1 (by omega)
          generalize ((0 + 1 : Nat) : Int) = K at *
          simp only [ev_seq, ev_asgG, ev_ix, ev_var, List.getElem?_cons_zero, List.getElem?_cons_succ, slV_fz, ev_bind_ok, hix', ev_ofO_some, ev_st_ok, pairI, ev_gT, ev_gC, ev_gN, ev_gE, Option.bind_some, List.set_cons_succ, List.set_cons_zero, seq_nx, ev_sIf, ev_bVal, ev_bin, ev_C, ev_cmpI, ev_asB, ev_subI, hq, ev_asg, i1', c2, ev_next, hz, Bool.false_eq_true, if_false, if_true]
      | succ j =>
        obtain ⟨s4, s5, s6, s7, e⟩ := sb_loop (P := (l0, h0) :: p') (many := j + 2) (u := u) (μ := μ) (by omega) hp (j + 1) 1 (openL l0 h0 [0, 1]) (.int 0) (.fz (.int 0)) (.fz (.int l0)) (.fz (.int h0)) (by omega) (by omega) (by rw [openL_len]; rfl) (by omega)
        refine ⟨s4, s5, s6, s7, ?_⟩
        show sForL _ _ (.int 0 :: rngI (0 + 1) (j + 1)) _ μ = _
        have hq : eqD (.int 0) (.int (((j + 1 + 1 : Nat) : Int) - 1)) = some (.bl false) := by rw [ev_eqII, decide_eq_false (by omega)]
        rw [forL_cons (ρ1 := [.fz (planD ((l0, h0) :: p')), .fz (.int ((j + 1 + 1 : Nat) : Int)), .fz (.int (u : Nat)), .fz (.int 0), .fz (intsD [0, 1]), .fz (.int 0), .no, .no, .no, .no, .no, .no]) (ρ2 := [.fz (planD ((l0, h0) :: p')), .fz (.int ((j + 1 + 1 : Nat) : Int)), .fz (.int (u : Nat)), .fz (.int 0), .fz (intsD (openL l0 h0 [0, 1])), .fz (.int 0), .fz (.int l0), .fz (.int h0), .no, .no, .no, .no]) (μ2 := μ) rfl ?_]
        · have : (0 : Int) + 1 = ((1 : Nat) : Int) := rfl
          rw [this, e, if_neg (by omega)]
          rfl
        · have hix' : ixS μ (planD ((l0, h0) :: p')) (.int 0) = some (pairI (l0, h0)) := hix
          generalize ((j + 1 + 1 : Nat) : Int) = K at *
          simp only [ev_seq, ev_asgG, ev_ix, ev_var, List.getElem?_cons_zero, List.getElem?_cons_succ, slV_fz, ev_bind_ok, hix', ev_ofO_some, ev_st_ok, pairI, ev_gT, ev_gC, ev_gN, ev_gE, Option.bind_some, List.set_cons_succ, List.set_cons_zero, seq_nx, ev_sIf, ev_bVal, ev_bin, ev_C, ev_cmpI, ev_asB, ev_subI, hq, ev_asg, c2, ev_next, hz, Bool.false_eq_true, if_false, if_true]
    obtain ⟨s4, s5, s6, s7, e⟩ := hloop
    have hs' := hs .no .no .no
    have h01 : D.lst [.int 0, .int 1] = intsD [0, 1] := rfl
    generalize (bH ((l0, h0) :: p') [0, 1] m).getD u 0 = X at e elow ⊢
    unfold g_share_begun F_share_begun
    generalize ((m + 1 : Nat) : Int) = K at e hs' hw ⊢
    simp [h01, hs', e, hw, elow]
theorem begun_share_spec {p : Plan} (hP : PlanOk p) {t : Int × Int × Int} {m u : Nat} {l h w : Int} (hk : PtOk p t m u l h w) (ht : t ∈ pts p) (μ : Store) : g_begun_share [planD p, .int t.1, .int t.2.1] μ = .ok (fr (Rat.divInt (bgT p m u) w)) μ := by
  have e1 := need_plan hP μ
  have e2 := need_point_spec hP.le ht μ
  have e3 := share_begun_spec hP.le hk ht μ
  unfold g_begun_share F_begun_share
  simp [e1, e2, e3]
def bqT (q : Rat) (p : Plan) (t : Int × Int × Int) : Rat := ((bgT p (t.1 - 1).toNat t.2.1.toNat : Int) : Rat) * W q t.1.toNat t.2.1.toNat
theorem bq_eq {q : Rat} {p : Plan} {t : Int × Int × Int} {m u : Nat} {l h w : Int} (hk : PtOk p t m u l h w) : Rat.divInt (bgT p m u) w * ptC q t = bqT q p t ∧ bqT q p t = pc q (bgT p m u) u (m + 1 - u) := by
  have hpos := hk.pos
  rw [ptC_eq hk]
  unfold bqT
  rw [hk.eq]
  show _ = ((bgT p (((m + 1 : Nat) : Int) - 1).toNat ((u : Int)).toNat : Int) : Rat) * (q ^ ((u : Int)).toNat * (1 - q) ^ ((((m + 1 : Nat) : Int)).toNat - ((u : Int)).toNat)) ∧ ((bgT p (((m + 1 : Nat) : Int) - 1).toNat ((u : Int)).toNat : Int) : Rat) * (q ^ ((u : Int)).toNat * (1 - q) ^ ((((m + 1 : Nat) : Int)).toNat - ((u : Int)).toNat)) = _
  rw [Int.toNat_natCast, Int.toNat_natCast, show (((m + 1 : Nat) : Int) - 1).toNat = m by omega, Rat.divInt_eq_div]
  unfold pc
  have hw : (w : Rat) ≠ 0 := fun z => by
    have := Rat.intCast_inj.mp (z.trans Rat.intCast_zero.symm)
    omega
  generalize ((bgT p m u : Int) : Rat) = x
  generalize (w : Rat) = y at *
  generalize q ^ u = s
  generalize (1 - q) ^ (m + 1 - u) = v
  refine ⟨?_, ?_⟩ <;> grind
theorem few_bq {q : Rat} (hq : RateOk q) {p : Plan} (hP : PlanOk p) : Few (RR q p.length) 201 6 ((pts p).map (bqT q p)) where
  pos := RR_pos q _
  lt := RR_lt hq hP.le
  le := by decide
  dv := fun x hx => by
    obtain ⟨t, ht, rfl⟩ := List.mem_map.mp hx
    obtain ⟨m, u, l, h, w, hk⟩ := pts_all hP.le ht
    have hm : m < p.length := (List.getElem?_eq_some_iff.mp hk.at_).1
    have hle := hk.le
    have h1 := FR.pc_dv (a := q.num) (b := ((q.den : Nat) : Int)) (FR.den_pos q) (bgT p m u) u (m + 1 - u) (N := RR q (m + 1)) (by
      unfold RR
      rw [show u + (m + 1 - u) = m + 1 by omega, ← Int.natCast_pow, Int.toNat_natCast])
    rw [FR.divInt_fr, ← (bq_eq (q := q) hk).2] at h1
    have h2 := h1.up (S := RR q (p.length - (m + 1))) (RR_pos q _)
    have : RR q (m + 1) * RR q (p.length - (m + 1)) = RR q p.length := by
      unfold RR
      rw [← Nat.pow_add, show m + 1 + (p.length - (m + 1)) = p.length by omega]
    rw [this] at h2
    exact h2
  nn := fun x hx => by
    obtain ⟨t, ht, rfl⟩ := List.mem_map.mp hx
    obtain ⟨m, u, l, h, w, hk⟩ := pts_all hP.le ht
    rw [(bq_eq (q := q) hk).2]
    exact FR.pc_nn (Rat.le_of_lt hq.pos) (Rat.le_of_lt hq.lt) (bg_bd hP.le hk ht).1 _ _
def bqF (q : Rat) (p : Plan) : D → D
  | .tup [.int a, .int b, _] => fr (bqT q p (a, b, 0))
  | _ => .non
theorem share_mean_spec {q : Rat} (hq : RateOk q) {p : Plan} (hP : PlanOk p) (μ : Store) : g_share_mean [planD p, fr q] μ = .ok (fr q) μ := by
  have hl := pts_len2 hP.le
  have e1 := need_plan_at hq hP μ
  have e2 := chances_spec hq hP μ
  have hc : C_share_mean_1 [.fz (planD p), .fz (fr q), .fz (.lst ((pts p).map (pt3c q))), .no, .no, .no] μ = .ok (.lst (((pts p).map (bqT q p)).map fr)) μ := by
    refine (ev_lcT (h := bqF q p) (ds := (pts p).map (pt3c q)) (μ' := μ) (by simp) rfl (by simp; omega) fun d hd => ?_).trans (by rw [List.map_map, List.map_map]; rfl)
    obtain ⟨t, ht, rfl⟩ := List.mem_map.mp hd
    obtain ⟨m, u, l, h, w, hk⟩ := pts_all hP.le ht
    have hm : m < p.length := (List.getElem?_eq_some_iff.mp hk.at_).1
    obtain ⟨b0, b1, _⟩ := bg_bd hP.le hk ht
    have s := share_begun_spec hP.le hk ht μ
    have hpos := hk.pos
    have hlt := hk.lt
    have z1 : SzR 4000 (Rat.divInt (bgT p m u) w) := (divInt_sz (n := 41) b0 (by omega) hpos hlt).mono (by decide)
    have z2 : SzR 4000 (ptC q t) := ((ptC_dv (q := q) hP.le ht).sz (RR_pos q _) (RR_lt hq hP.le) (ptC_nn hq hP.le ht) (m := 6) (le64 (by
      have h1 := FR.sumQ_ge_mem (a := (pts p).map (ptC q)) (fun x hx => by
        obtain ⟨y, hy, rfl⟩ := List.mem_map.mp hx
        exact ptC_nn hq hP.le hy) (List.mem_map.mpr ⟨t, ht, rfl⟩)
      rw [sum_pts_one hP] at h1
      exact h1))).mono (by decide)
    have e3 := prod_spec z1 z2 μ
    rw [(bq_eq (q := q) hk).1] at e3
    refine ⟨[.fz (planD p), .fz (fr q), .fz (.lst ((pts p).map (pt3c q))), .fz (.int t.1), .fz (.int t.2.1), .fz (fr (ptC q t))], rfl, ?_⟩
    generalize D.lst ((pts p).map (pt3c q)) = Z
    simp [s, e3]
    rfl
  have hsum : sumQ ((pts p).map (bqT q p)) = q := begun_sum hP
  have hs := over_spec (few_bq hq hP) (le64 (by rw [hsum]; exact Rat.le_of_lt hq.lt)) μ
  rw [hsum] at hs
  unfold g_share_mean F_share_mean
  generalize D.lst (((pts p).map (bqT q p)).map fr) = Y at hc hs
  generalize D.lst ((pts p).map (pt3c q)) = Z at e2 hc
  simp [e1, e2, hc, hs]
end K77
set_option Elab.async false
set_option linter.all false
set_option maxRecDepth 100000
set_option maxHeartbeats 2000000
namespace K77
open PySem DC
open FR (sumQ pc fr SzR Dv Few LowOk SumOk)
/-! ### _law_right -/
theorem upl_eq {p : Plan} (hP : PlanOk p) {t : Int × Int × Int} {m u : Nat} {l h w : Int} (hk : PtOk p t m u l h w) : decide ((u : Int) ≤ l) = !decide (h ≤ (u : Int)) := by
  have hok := hP.ok (l, h) (List.mem_of_getElem? hk.at_)
  have h1 : l < h := hok.2.1
  rcases hk.out with z | z
  · rw [decide_eq_true z, decide_eq_false (by omega)]; rfl
  · rw [decide_eq_true z, decide_eq_false (by omega)]; rfl
def law1F (q : Rat) : D → D := ptCF q
def upF (up : Bool) (p : Plan) : D → Bool
  | .tup [.int a, .int b, _] => isB up p (a, b, 0)
  | _ => false
theorem upF_pt (up : Bool) (p : Plan) (q : Rat) (t : Int × Int × Int) : upF up p (pt3c q t) = isB up p t := rfl
theorem filter_up (q : Rat) (up : Bool) (p : Plan) (l : List (Int × Int × Int)) : ((l.map (pt3c q)).filter (upF up p)).map chF = ((l.filter (isB up p)).map (ptC q)).map fr := by
  rw [List.filter_map, List.map_map, List.map_map]
  rfl
section
variable {q : Rat} {p : Plan} {μ : Store} {s0 s4 s5 s6 s7 s8 s12 s3 : Sl}
abbrev Zp (q : Rat) (p : Plan) : D := .lst ((pts p).map (pt3c q))
theorem lr1 (hq : RateOk q) (hP : PlanOk p) : C__law_right_1 [s0, .fz (planD p), .fz (fr q), s3, s4, s5, s6, s7, s8, .no, .no, .no, s12, .no, .no, .no, .no] μ = .ok (Zp q p) μ := by
  have hl := pts_len2 hP.le
  have hpt := law_points_spec hP.le μ
  refine (ev_lcT (h := ptCF q) (ds := (pts p).map pt3) (μ' := μ) (by simp [hpt]) rfl (by simp; omega) fun d hd => ?_).trans (by rw [List.map_map]; rfl)
  obtain ⟨t, ht, rfl⟩ := List.mem_map.mp hd
  have e := (point_chance_spec hq hP.le ht μ).2
  refine ⟨[s0, .fz (planD p), .fz (fr q), s3, s4, s5, s6, s7, s8, .fz (.int t.1), .fz (.int t.2.1), .no, s12, .fz (.int t.2.2), .no, .no, .no], rfl, ?_⟩
  simp [e]
  rfl
theorem lr2 (hq : RateOk q) (hP : PlanOk p) : C__law_right_2 [s0, .fz (planD p), .fz (fr q), .fz (Zp q p), s4, s5, s6, s7, s8, .no, .no, .no, s12, .no, .no, .no, .no] μ = .ok (.lst ((((pts p).filter (isB true p)).map (ptC q)).map fr)) μ := by
  have hl := pts_len2 hP.le
  refine (ev_lc (p := upF true p) (h := chF) (ds := (pts p).map (pt3c q)) (μ' := μ) (by simp) rfl (by simp; omega) fun d hd => ?_).trans (by rw [filter_up])
  obtain ⟨t, ht, rfl⟩ := List.mem_map.mp hd
  obtain ⟨m, u, l, h, w, hk⟩ := pts_all hP.le ht
  have hix := ix_plan hk.at_ μ
  have e1 : t.1 - 1 = (m : Int) := by rw [hk.eq]; show ((m + 1 : Nat) : Int) - 1 = _; omega
  have e2 : t.2.1 = (u : Int) := by rw [hk.eq]
  refine ⟨[s0, .fz (planD p), .fz (fr q), .fz (Zp q p), s4, s5, s6, s7, s8, .fz (.int t.1), .fz (.int t.2.1), .fz (fr (ptC q t)), s12, .no, .no, .no, .no], rfl, ?_, fun _ => rfl⟩
  rw [upF_pt, isB, upB_eq hk]
  generalize Zp q p = Z
  simp [e1, hix, ix_pair1, e2]
theorem lr3 (hq : RateOk q) (hP : PlanOk p) : C__law_right_3 [s0, .fz (planD p), .fz (fr q), .fz (Zp q p), s4, s5, s6, s7, s8, .no, .no, .no, s12, .no, .no, .no, .no] μ = .ok (.lst ((((pts p).filter (isB false p)).map (ptC q)).map fr)) μ := by
  have hl := pts_len2 hP.le
  refine (ev_lc (p := upF false p) (h := chF) (ds := (pts p).map (pt3c q)) (μ' := μ) (by simp) rfl (by simp; omega) fun d hd => ?_).trans (by rw [filter_up])
  obtain ⟨t, ht, rfl⟩ := List.mem_map.mp hd
  obtain ⟨m, u, l, h, w, hk⟩ := pts_all hP.le ht
  have hix := ix_plan hk.at_ μ
  have hup := upl_eq hP hk
  have e1 : t.1 - 1 = (m : Int) := by rw [hk.eq]; show ((m + 1 : Nat) : Int) - 1 = _; omega
  have e2 : t.2.1 = (u : Int) := by rw [hk.eq]
  refine ⟨[s0, .fz (planD p), .fz (fr q), .fz (Zp q p), s4, s5, s6, s7, s8, .fz (.int t.1), .fz (.int t.2.1), .fz (fr (ptC q t)), s12, .no, .no, .no, .no], rfl, ?_, fun _ => rfl⟩
  rw [upF_pt, isB, upB_eq hk]
  have hb : (decide (h ≤ (u : Int)) == false) = decide ((u : Int) ≤ l) := by rw [hup]; cases decide (h ≤ (u : Int)) <;> rfl
  rw [hb]
  generalize Zp q p = Z
  simp [e1, hix, ix_pair0, e2]
theorem lr4 (hP : PlanOk p) : C__law_right_4 [s0, .fz (planD p), .fz (fr q), .fz (Zp q p), s4, s5, s6, s7, s8, .no, .no, .no, s12, .no, .no, .no, .no] μ = .ok (.lst (((pts p).map fun t => t.1).map D.int)) μ := by
  have hl := pts_len2 hP.le
  refine (ev_lcT (h := tmF) (ds := (pts p).map (pt3c q)) (μ' := μ) (by simp) rfl (by simp; omega) fun d hd => ?_).trans (by rw [List.map_map, List.map_map]; rfl)
  obtain ⟨t, ht, rfl⟩ := List.mem_map.mp hd
  exact ⟨_, rfl, rfl⟩
theorem lr5 (hP : PlanOk p) (k : Int) : C__law_right_5 [s0, .fz (planD p), .fz (fr q), .fz (Zp q p), s4, s5, s6, s7, s8, .no, .no, .no, s12, .no, .fz (.int k), .no, .no] μ = .ok (.lst ((((pts p).filter (atB k)).map (ptC q)).map fr)) μ := by
  have hl := pts_len2 hP.le
  refine (ev_lc (p := atF k) (h := chF) (ds := (pts p).map (pt3c q)) (μ' := μ) (by simp) rfl (by simp; omega) fun d hd => ?_).trans (by rw [filter_at])
  obtain ⟨t, ht, rfl⟩ := List.mem_map.mp hd
  refine ⟨[s0, .fz (planD p), .fz (fr q), .fz (Zp q p), s4, s5, s6, s7, s8, .fz (.int t.1), .fz (.int t.2.1), .fz (fr (ptC q t)), s12, .no, .fz (.int k), .no, .no], rfl, ?_, fun _ => rfl⟩
  generalize Zp q p = Z
  simp [atF, pt3c]
theorem lr6 (hq : RateOk q) (hP : PlanOk p) : C__law_right_6 [s0, .fz (planD p), .fz (fr q), .fz (Zp q p), s4, s5, s6, s7, s8, .no, .no, .no, s12, .no, .no, .no, .no] μ = .ok (.lst (trD q p)) μ := by
  have hl := pts_len2 hP.le
  have hn := nums_len hP.le
  have e4 := lr4 (q := q) (s0 := s0) (s4 := s4) (s5 := s5) (s6 := s6) (s7 := s7) (s8 := s8) (s12 := s12) (μ := μ) hP
  have hs : sortSetD [.lst (((pts p).map fun t => t.1).map D.int)] = some (.lst ((nums p).map D.int)) := sort_ints (l := (pts p).map fun t => t.1) (by simp; omega) (by show (nums p).length < 64; omega)
  refine (ev_lcT (h := trF q p) (ds := (nums p).map D.int) (μ' := μ) ?_ rfl (by simp; omega) fun d hd => ?_).trans (by rw [List.map_map]; rfl)
  · generalize D.lst (((pts p).map fun t => t.1).map D.int) = Y at e4 hs
    generalize Zp q p = Z at e4 ⊢
    simp [e4, hs]
  · obtain ⟨k, hk, rfl⟩ := List.mem_map.mp hd
    have e3 := lsum_spec (few_pts hq hP.le (atB k)) (le64 (part_le hq hP _)) μ
    have e5 := lr5 (q := q) (s0 := s0) (s4 := s4) (s5 := s5) (s6 := s6) (s7 := s7) (s8 := s8) (s12 := s12) (μ := μ) hP k
    refine ⟨[s0, .fz (planD p), .fz (fr q), .fz (Zp q p), s4, s5, s6, s7, s8, .no, .no, .no, s12, .no, .fz (.int k), .no, .no], rfl, ?_⟩
    have hT : trF q p (.int k) = .tup [.int k, fr (sumQ (((pts p).filter (atB k)).map (ptC q)))] := rfl
    rw [hT]
    generalize sumQ (((pts p).filter (atB k)).map (ptC q)) = S at e3 ⊢
    generalize D.lst ((((pts p).filter (atB k)).map (ptC q)).map fr) = Y at e3 e5
    generalize Zp q p = Z at e5 ⊢
    simp [e5, e3]
end
/-! trials as chances -/
def trL (q : Rat) (p : Plan) : Chs := (nums p).map fun k => (k, trQ q p k)
theorem trD_eq (q : Rat) (p : Plan) : trD q p = (trL q p).map chD := by
  unfold trD trL
  rw [List.map_map]; rfl
theorem trL_ok {q : Rat} (hq : RateOk q) {p : Plan} (hP : PlanOk p) : ChOk (RR q p.length) (trL q p) where
  pos := RR_pos q _
  lt := RR_60 hq hP.le
  len0 := by
    unfold trL
    rw [List.length_map]
    cases e : nums p with
    | nil =>
      have h1 := trQ_one (q := q) hP
      rw [e] at h1
      exact absurd h1 (by show ¬ (0 : Rat) = 1; decide)
    | cons x l => simp
  len := by unfold trL; rw [List.length_map]; exact nums_len hP.le
  asc := by
    unfold trL
    rw [List.map_map]
    have : (Prod.fst ∘ fun k => (k, trQ q p k)) = id := rfl
    rw [this, List.map_id]
    exact sortU_asc _
  key := fun c hc => by
    obtain ⟨k, hk, rfl⟩ := List.mem_map.mp hc
    have := nums_in (p := p) hk
    have hp := hP.le
    show -1000000 ≤ k ∧ k ≤ 1000000
    omega
  ch := fun c hc => by
    obtain ⟨k, hk, rfl⟩ := List.mem_map.mp hc
    exact ⟨trQ_pos hq hP hk, trQ_le hq hP k, trQ_dv hq hP k⟩
  one := by
    unfold trL
    rw [List.map_map]
    exact trQ_one hP
theorem trL_mean {q : Rat} (hq : RateOk q) {p : Plan} (hP : PlanOk p) : MeanOk (RR q p.length) (trL q p) where
  pos := RR_pos q _
  lt := RR_lt hq hP.le
  len := (trL_ok hq hP).len
  key := fun c hc => by
    obtain ⟨k, hk, rfl⟩ := List.mem_map.mp hc
    have := nums_in (p := p) hk
    have hp := hP.le
    show 0 ≤ k ∧ k ≤ 1000000
    omega
  ch := fun c hc => by
    obtain ⟨k, hk, rfl⟩ := List.mem_map.mp hc
    exact ⟨trQ_nn hq hP k, trQ_le hq hP k, trQ_dv hq hP k⟩
theorem trL_sum {q : Rat} {p : Plan} : sumQ ((trL q p).map fun c => (c.1 : Rat) * c.2) = meanQ q p := by
  unfold trL
  rw [List.map_map, ← trQ_mean]
  rfl
theorem trial_spec {q : Rat} (hq : RateOk q) {p : Plan} (hP : PlanOk p) (μ : Store) : g_trial_chances [planD p, fr q] μ = .ok (.tup (trD q p)) μ := by
  have e1 := need_plan_at hq hP μ
  have e2 := trials_spec hq hP μ
  unfold g_trial_chances F_trial_chances
  simp [e1, e2]
theorem mean_trials_spec {q : Rat} (hq : RateOk q) {p : Plan} (hP : PlanOk p) (μ : Store) : g_mean_trials [planD p, fr q] μ = .ok (fr (meanQ q p)) μ := by
  have e1 := need_plan_at hq hP μ
  have e2 := trials_spec hq hP μ
  have e3 := mean_in_spec (trL_mean hq hP) μ
  rw [trL_sum, ← trD_eq] at e3
  unfold g_mean_trials F_mean_trials
  simp [e1, e2, e3]
end K77
set_option Elab.async false
set_option linter.all false
set_option maxRecDepth 100000
set_option maxHeartbeats 2000000
namespace K77
open PySem DC
open FR (sumQ pc fr SzR Dv Few LowOk SumOk)
theorem part_nn {q : Rat} (hq : RateOk q) {p : Plan} (hP : PlanOk p) (up : Bool) : 0 ≤ partQ q p up := FR.sumQ_nn fun x hx => (few_pts hq hP.le (isB up p)).nn x hx
theorem part_sz {q : Rat} (hq : RateOk q) {p : Plan} (hP : PlanOk p) (up : Bool) : SzR 4000 (partQ q p up) :=
  ((Dv.sum (RR_pos q p.length) fun x hx => (few_pts hq hP.le (isB up p)).dv x hx).sz (RR_pos q _) (RR_lt hq hP.le) (part_nn hq hP up) (m := 6) (le64 (part_le hq hP _))).mono (by decide)
theorem rate_sz {q : Rat} (hq : RateOk q) : SzR 4000 q := by
  obtain ⟨n0, n1⟩ := rate_num hq
  have hd := hq.den
  refine ⟨FR.lt_pow (m := 5) (by show q.num.natAbs < 32; omega) (by decide), FR.lt_pow (m := 5) (by show q.den < 32; omega) (by decide)⟩
theorem mean_sz {q : Rat} (hq : RateOk q) {p : Plan} (hP : PlanOk p) : SzR 4000 (meanQ q p) ∧ 0 ≤ meanQ q p := by
  have hm := trL_mean hq hP
  have hf := few_mean hm
  have hb := mean_bd hm
  have e := trL_sum (q := q) (p := p)
  rw [e] at hb
  have h0 : 0 ≤ meanQ q p := by rw [← e]; exact FR.sumQ_nn fun x hx => hf.nn x hx
  have hd : Dv (RR q p.length) (meanQ q p) := by rw [← e]; exact Dv.sum (RR_pos q _) fun x hx => hf.dv x hx
  exact ⟨(hd.sz (RR_pos q _) (RR_lt hq hP.le) h0 hb).mono (by decide), h0⟩
/-! ### ups in the mean -/
def upsQ (q : Rat) (p : Plan) : Rat := sumQ ((pts p).map fun t => (t.2.1 : Rat) * ptC q t)
theorem wald {q : Rat} {p : Plan} (hP : PlanOk p) : upsQ q p = q * meanQ q p := by
  have h := pts_mart (mart_wald q) hP
  have z : ((0 : Nat) : Rat) = 0 := rfl
  have h0 : ((0 : Nat) : Rat) - q * ((0 : Nat) : Rat) = 0 := by
    rw [z]; grind
  rw [h0] at h
  have e : (pts p).map (ptW fun t u => W q t u * ((u : Rat) - q * (t : Rat))) = (pts p).map fun t => (t.2.1 : Rat) * ptC q t + (-q) * ((t.1 : Rat) * ptC q t) := by
    apply List.map_congr_left
    intro t ht
    rw [ptC_W hP.le ht]
    obtain ⟨m, u, l, h, w, hk⟩ := pts_all hP.le ht
    unfold ptW
    rw [hk.eq]
    show (w : Rat) * (W q (((m + 1 : Nat) : Int)).toNat ((u : Int)).toNat * ((((u : Int)).toNat : Rat) - q * (((((m + 1 : Nat) : Int)).toNat : Nat) : Rat))) = (((u : Int)) : Rat) * ((w : Rat) * W q (((m + 1 : Nat) : Int)).toNat ((u : Int)).toNat) + -q * (((((m + 1 : Nat) : Int)) : Rat) * ((w : Rat) * W q (((m + 1 : Nat) : Int)).toNat ((u : Int)).toNat))
    rw [Int.toNat_natCast, Int.toNat_natCast]
    have c1 : (((u : Int)) : Rat) = (u : Rat) := rfl
    have c2 : ((((m + 1 : Nat) : Int)) : Rat) = ((m + 1 : Nat) : Rat) := rfl
    rw [c1, c2]
    grind
  rw [e, FR.sumQ_add] at h
  have e2 : (pts p).map (fun t => -q * ((t.1 : Rat) * ptC q t)) = ((pts p).map fun t => (t.1 : Rat) * ptC q t).map fun x => -q * x := by rw [List.map_map]; rfl
  rw [e2, FR.sumQ_mul] at h
  unfold upsQ meanQ
  grind
def uqF (q : Rat) : D → D
  | .tup [.int _, .int u, .tup [.int a, .int b]] => fr ((u : Rat) * Rat.divInt a b)
  | _ => .non
theorem uqF_pt (q : Rat) (t : Int × Int × Int) : uqF q (pt3c q t) = fr ((t.2.1 : Rat) * ptC q t) := by
  show fr ((t.2.1 : Rat) * Rat.divInt (ptC q t).num (((ptC q t).den : Nat) : Int)) = _
  rw [FR.divInt_fr]
section
variable {q : Rat} {p : Plan} {μ : Store} {s0 s4 s5 s6 s7 s8 s9 s10 s11 s12 s3 : Sl}
theorem lr7 (hq : RateOk q) (hP : PlanOk p) : C__law_right_7 [s0, .fz (planD p), .fz (fr q), s3, s4, s5, .fz (.tup (trD q p)), s7, s8, .no, .no, .no, s12, .no, .no, .no, .no] μ = .ok (.lst (((trL q p).map fun c => (c.1 : Rat) * c.2).map fr)) μ := by
  have hm := trL_mean hq hP
  have hlen := hm.len
  rw [trD_eq]
  refine (ev_lcT (h := mnF) (ds := (trL q p).map chD) (μ' := μ) (by simp) rfl (by simp; omega) fun d hd => ?_).trans ?_
  · obtain ⟨c, hc, rfl⟩ := List.mem_map.mp hd
    obtain ⟨e1, _, e2⟩ := mean_item hm hc μ
    rw [mnF_chD]
    refine ⟨[s0, .fz (planD p), .fz (fr q), s3, s4, s5, .fz (.tup ((trL q p).map chD)), s7, s8, .no, .no, .fz (fr c.2), s12, .no, .fz (.int c.1), .no, .no], rfl, ?_⟩
    generalize D.tup ((trL q p).map chD) = Z
    simp [FR.ix0, FR.ix1, e1, e2]
  · rw [List.map_map, List.map_map]
    congr 2
    apply List.map_congr_left
    intro c _
    exact mnF_chD c
theorem few_ups (hq : RateOk q) (hP : PlanOk p) : Few (RR q p.length) 201 6 ((pts p).map fun t => (t.2.1 : Rat) * ptC q t) := few_of hq hP.le fun x hx => by
  obtain ⟨t, ht, rfl⟩ := List.mem_map.mp hx
  obtain ⟨m, u, l, h, w, hk⟩ := pts_all hP.le ht
  refine ⟨t, u, ht, ?_⟩
  have e2 : t.2.1 = (u : Int) := by rw [hk.eq]
  show (t.2.1 : Rat) * ptC q t = _
  rw [e2]; rfl
theorem ups_bd (hq : RateOk q) (hP : PlanOk p) : upsQ q p ≤ ((2 ^ 6 : Nat) : Rat) := by
  have e3 : ((2 ^ 6 : Nat) : Rat) = 64 := rfl
  rw [e3]
  have h1 : upsQ q p ≤ sumQ ((pts p).map fun t => 40 * ptC q t) := by
    have gen : ∀ l : List (Int × Int × Int), (∀ t, t ∈ l → t ∈ pts p) → sumQ (l.map fun t => (t.2.1 : Rat) * ptC q t) ≤ sumQ (l.map fun t => 40 * ptC q t) := by
      intro l
      induction l with
      | nil => intro _; exact Rat.le_refl
      | cons t l ih =>
        intro hl
        have ht := hl t (by simp)
        have h2 := ih fun x hx => hl x (List.mem_cons_of_mem _ hx)
        obtain ⟨m, u, l', h, w, hk⟩ := pts_all hP.le ht
        have hm : m < p.length := (List.getElem?_eq_some_iff.mp hk.at_).1
        have hle := hk.le
        have hp := hP.le
        have e2 : t.2.1 = (u : Int) := by rw [hk.eq]
        have h3 : (t.2.1 : Rat) ≤ ((40 : Int) : Rat) := Rat.intCast_le_intCast.mpr (by omega)
        have e4 : ((40 : Int) : Rat) = 40 := rfl
        rw [e4] at h3
        have h4 := Rat.mul_le_mul_of_nonneg_right h3 (ptC_nn hq hP.le ht)
        show (t.2.1 : Rat) * ptC q t + _ ≤ 40 * ptC q t + _
        grind
    exact gen _ fun _ h => h
  have e : (pts p).map (fun t => (40 : Rat) * ptC q t) = ((pts p).map (ptC q)).map fun x => 40 * x := by rw [List.map_map]; rfl
  rw [e, FR.sumQ_mul, sum_pts_one hP] at h1
  grind
theorem lr8 (hq : RateOk q) (hP : PlanOk p) : C__law_right_8 [s0, .fz (planD p), .fz (fr q), .fz (Zp q p), s4, s5, s6, s7, s8, s9, s10, s11, s12, .no, .no, .no, .no] μ = .ok (.lst (((pts p).map fun t => (t.2.1 : Rat) * ptC q t).map fr)) μ := by
  have hl := pts_len2 hP.le
  refine (ev_lcT (h := uqF q) (ds := (pts p).map (pt3c q)) (μ' := μ) (by simp) rfl (by simp; omega) fun d hd => ?_).trans ?_
  · obtain ⟨t, ht, rfl⟩ := List.mem_map.mp hd
    obtain ⟨m, u, l, h, w, hk⟩ := pts_all hP.le ht
    have hm : m < p.length := (List.getElem?_eq_some_iff.mp hk.at_).1
    have hle := hk.le
    have hp := hP.le
    have e2 : t.2.1 = (u : Int) := by rw [hk.eq]
    have hd := (ptC_dv (q := q) hP.le ht).den (RR_pos q _)
    have hlt := RR_lt hq hP.le
    have hz : FR.Sz 8990 (((ptC q t).den : Nat) : Int) := FR.lt_pow (m := 201) (by show ((((ptC q t).den : Nat) : Int)).natAbs < 2 ^ 201; rw [Int.natAbs_natCast]; omega) (by decide)
    have e1 := ev_mul (i := t.2.1) (j := (ptC q t).num) (mulOk_l (by omega))
    have e3 := least_ok (t.2.1 * (ptC q t).num) _ μ (FR.den_pos _) hz
    rw [FR.scale_low] at e3
    rw [uqF_pt]
    refine ⟨[s0, .fz (planD p), .fz (fr q), .fz (Zp q p), s4, s5, s6, s7, s8, s9, s10, s11, s12, .no, .fz (.int t.2.1), .fz (.int t.1), .fz (fr (ptC q t))], rfl, ?_⟩
    generalize Zp q p = Z
    simp [FR.ix0, FR.ix1, e1, e3]
  · rw [List.map_map, List.map_map]
    congr 2
    apply List.map_congr_left
    intro t _
    exact uqF_pt q t
end
theorem fr_lb (q : Rat) (n : Nat) : lenB n (fr q) = true := by
  cases n with
  | zero => rfl
  | succ n => cases n <;> rfl
theorem like_fr (a : Rat) (μ : Store) : g__law_like 12 [fr a, fr a] μ = .ok (.bl true) μ := like12 μ (fr_pd a 10) (fr_lb a 12)
theorem like_3 (x y z : D) (μ : Store) (h : ∀ d, d ∈ [x, y, z] → D.pd 11 d = true ∧ lenB 11 d = true) : g__law_like 12 [.lst [x, y, z], .lst [x, y, z]] μ = .ok (.bl true) μ := by
  have hx := h x (by simp)
  have hy := h y (by simp)
  have hz := h z (by simp)
  refine like12 μ ?_ ?_
  · show (D.pd 11 x && (D.pd 11 y && (D.pd 11 z && true))) = true
    rw [hx.1, hy.1, hz.1]; rfl
  · show (decide (3 ≤ 1000000) && (lenB 11 x && (lenB 11 y && (lenB 11 z && true)))) = true
    rw [hx.2, hy.2, hz.2]; rfl
theorem fr_11 (q : Rat) : D.pd 11 (fr q) = true ∧ lenB 11 (fr q) = true := ⟨fr_pd q 9, fr_lb q 11⟩
theorem trD_11 {q : Rat} (hq : RateOk q) {p : Plan} (hP : PlanOk p) : D.pd 11 (.tup (trD q p)) = true ∧ lenB 11 (.tup (trD q p)) = true := by
  rw [trD_eq]
  have hlen := (trL_mean hq hP).len
  refine ⟨?_, ?_⟩
  · show ((trL q p).map chD).all (D.pd 10) = true
    rw [List.all_eq_true]
    intro x hx
    obtain ⟨c, _, rfl⟩ := List.mem_map.mp hx
    exact chD_pd c 7
  · show (decide (((trL q p).map chD).length ≤ 1000000) && ((trL q p).map chD).all (lenB 10)) = true
    rw [decide_eq_true (by rw [List.length_map]; omega), Bool.true_and, List.all_eq_true]
    intro x hx
    obtain ⟨c, _, rfl⟩ := List.mem_map.mp hx
    show (decide (2 ≤ 1000000) && (true && (lenB 9 (fr c.2) && true))) = true
    rw [fr_lb]; rfl
theorem pts_ne {p : Plan} (hP : PlanOk p) : pts p ≠ [] := fun z => by
  have h := sum_pts_one (q := 0) hP
  rw [z] at h
  exact absurd h (by show ¬ (0 : Rat) = 1; decide)
theorem right_spec {q : Rat} (hq : RateOk q) {p : Plan} (hP : PlanOk p) {μ : Store} (hc : CupOk μ) : ∃ μ', g__law_right [.own 0, planD p, fr q] μ = .ok (.bl true) μ' ∧ CupOk μ' := by
  have hl := pts_len2 hP.le
  have c1 := fun s3 s4 s5 s6 s7 s8 s12 => lr1 (q := q) (p := p) (μ := μ) (s0 := .fz (.own 0)) (s3 := s3) (s4 := s4) (s5 := s5) (s6 := s6) (s7 := s7) (s8 := s8) (s12 := s12) hq hP
  have c2 := fun s4 s5 s6 s7 s8 s12 => lr2 (q := q) (p := p) (μ := μ) (s0 := .fz (.own 0)) (s4 := s4) (s5 := s5) (s6 := s6) (s7 := s7) (s8 := s8) (s12 := s12) hq hP
  have c3 := fun s4 s5 s6 s7 s8 s12 => lr3 (q := q) (p := p) (μ := μ) (s0 := .fz (.own 0)) (s4 := s4) (s5 := s5) (s6 := s6) (s7 := s7) (s8 := s8) (s12 := s12) hq hP
  have c6 := fun s4 s5 s6 s7 s8 s12 => lr6 (q := q) (p := p) (μ := μ) (s0 := .fz (.own 0)) (s4 := s4) (s5 := s5) (s6 := s6) (s7 := s7) (s8 := s8) (s12 := s12) hq hP
  have c7 := fun s3 s4 s5 s7 s8 s12 => lr7 (q := q) (p := p) (μ := μ) (s0 := .fz (.own 0)) (s3 := s3) (s4 := s4) (s5 := s5) (s7 := s7) (s8 := s8) (s12 := s12) hq hP
  have l2 := lsum_spec (few_pts hq hP.le (isB true p)) (le64 (part_le hq hP _)) μ
  have l3 := lsum_spec (few_pts hq hP.le (isB false p)) (le64 (part_le hq hP _)) μ
  have l7 := lsum_spec (few_mean (trL_mean hq hP)) (mean_bd (trL_mean hq hP)) μ
  rw [trL_sum] at l7
  have u1 := up_spec hq hP μ
  have u2 := down_spec hq hP μ
  have u3 := plus_ok (partQ q p true) (partQ q p false) μ (part_sz hq hP true) (part_sz hq hP false)
  rw [parts_one hP] at u3
  have k1 := like_3 (fr (partQ q p true)) (fr (partQ q p false)) (fr 1) μ fun d hd => by
    simp only [List.mem_cons, List.not_mem_nil, or_false] at hd
    rcases hd with rfl | rfl | rfl
    · exact fr_11 _
    · exact fr_11 _
    · exact fr_11 _
  have t1 := trial_spec hq hP μ
  have t2 := mean_trials_spec hq hP μ
  have t3 := share_mean_spec hq hP μ
  have k2 := like_3 (.tup (trD q p)) (fr (meanQ q p)) (fr q) μ fun d hd => by
    simp only [List.mem_cons, List.not_mem_nil, or_false] at hd
    rcases hd with rfl | rfl | rfl
    · exact trD_11 hq hP
    · exact fr_11 _
    · exact fr_11 _
  have a1 := are_spec (trL_ok hq hP) μ
  have a2 := mean_of_spec (trL_ok hq hP) (trL_mean hq hP) μ
  rw [← trD_eq] at a1 a2
  rw [trL_sum] at a2
  have k3 : g__law_like 12 [.lst [.bl true, fr (meanQ q p)], .lst [.bl true, fr (meanQ q p)]] μ = .ok (.bl true) μ := like12 μ (by
    show (true && (D.pd 11 (fr (meanQ q p)) && true)) = true
    rw [(fr_11 _).1]; rfl) (by
    show (decide (2 ≤ 1000000) && (true && (lenB 11 (fr (meanQ q p)) && true))) = true
    rw [(fr_11 _).2]; rfl)
  obtain ⟨d, μ2, e4, cc, hd⟩ := some_lst (ds := (pts p).map (pt3c q)) hc (by rw [List.length_map]; exact List.length_pos_iff.mpr (pts_ne hP)) (by rw [List.length_map]; omega)
  obtain ⟨t, ht, rfl⟩ := List.mem_map.mp hd
  have e5 := end_chance_spec hq hP ht μ2
  have k4 := like_fr (ptC q t) μ2
  have c8 := fun s4 s5 s6 s7 s8 s9 s10 s11 s12 => lr8 (q := q) (p := p) (μ := μ2) (s0 := .fz (.own 0)) (s4 := s4) (s5 := s5) (s6 := s6) (s7 := s7) (s8 := s8) (s9 := s9) (s10 := s10) (s11 := s11) (s12 := s12) hq hP
  have l8 := lsum_spec (few_ups hq hP) (ups_bd hq hP) μ2
  have hup : sumQ ((pts p).map fun t => (t.2.1 : Rat) * ptC q t) = q * meanQ q p := wald hP
  rw [hup] at l8
  have e6 := times_spec (rate_sz hq) (mean_sz hq hP).1 μ2
  have k5 := like_fr (q * meanQ q p) μ2
  refine ⟨μ2, ?_, cc⟩
  have h1 : (.tup [.int 1, .int 1] : D) = fr 1 := rfl
  have s2 : sumQ (((pts p).filter (isB true p)).map (ptC q)) = partQ q p true := rfl
  have s3 : sumQ (((pts p).filter (isB false p)).map (ptC q)) = partQ q p false := rfl
  rw [s2] at l2
  rw [s3] at l3
  generalize D.lst ((((pts p).filter (isB true p)).map (ptC q)).map fr) = A2 at c2 l2
  generalize D.lst ((((pts p).filter (isB false p)).map (ptC q)).map fr) = A3 at c3 l3
  generalize hT : D.tup (trD q p) = T at c7 t1 k2 a1 a2
  generalize D.lst (((trL q p).map fun c => (c.1 : Rat) * c.2).map fr) = A7 at c7 l7
  generalize D.lst (((pts p).map fun t => (t.2.1 : Rat) * ptC q t).map fr) = A8 at c8 l8
  have hZ : Zp q p = .lst ((pts p).map (pt3c q)) := rfl
  rw [← hZ] at e4
  generalize Zp q p = Z at c1 c2 c3 c6 c8 e4
  have htup : tupleD [.lst (trD q p)] = some T := by rw [← hT]; rfl
  generalize D.lst (trD q p) = TL at c6 htup
  unfold g__law_right F__law_right
  simp [c1, c2, l2, c3, l3, u1, u2, u3, h1, k1, c6, htup, c7, l7, t1, t2, t3, k2, a1, a2, k3, e4]
  simp [pt3c, e5, k4, c8, l8, e6, k5]
end K77
set_option Elab.async false
set_option linter.all false
set_option maxRecDepth 100000
set_option maxHeartbeats 2000000
namespace K77
open PySem DC
open FR (sumQ pc fr SzR Dv Few LowOk SumOk)
/-! ### turned about -/
def tpair (k : Nat) (x : Int × Int) : Int × Int := ((if (k : Int) + 1 - x.2 > -1 then (k : Int) + 1 - x.2 else -1), (if (k : Int) + 1 - x.1 < 41 then (k : Int) + 1 - x.1 else 41))
def turnP : Nat → Plan → Plan
  | _, [] => []
  | k, x :: p => tpair k x :: turnP (k + 1) p
theorem turnP_len : ∀ (k : Nat) (p : Plan), (turnP k p).length = p.length
  | _, [] => rfl
  | k, x :: p => by
    show (turnP (k + 1) p).length + 1 = _
    rw [turnP_len (k + 1) p]; rfl
theorem turnP_at : ∀ (p : Plan) (k m : Nat) (x : Int × Int), p[m]? = some x → (turnP k p)[m]? = some (tpair (k + m) x)
  | [], _, _, _, e => by cases e
  | y :: p, k, 0, x, e => by cases e; rfl
  | y :: p, k, m + 1, x, e => by
    show (turnP (k + 1) p)[m]? = _
    rw [turnP_at p (k + 1) m x (by simpa using e), show k + 1 + m = k + (m + 1) by omega]
/-- the sides change places -/
theorem inB_turn {k u : Nat} (hk : k ≤ 39) (hu : u ≤ k + 1) (l h : Int) : inB (tpair k (l, h)).1 (tpair k (l, h)).2 (k + 1 - u) = inB l h u := by
  unfold inB tpair
  show (decide ((if (k : Int) + 1 - h > -1 then (k : Int) + 1 - h else -1) < ((k + 1 - u : Nat) : Int)) && decide (((k + 1 - u : Nat) : Int) < (if (k : Int) + 1 - l < 41 then (k : Int) + 1 - l else 41))) = (decide (l < (u : Int)) && decide ((u : Int) < h))
  have e1 : ((if (k : Int) + 1 - h > -1 then (k : Int) + 1 - h else -1) < ((k + 1 - u : Nat) : Int)) ↔ (u : Int) < h := by
    split <;> omega
  have e2 : (((k + 1 - u : Nat) : Int) < (if (k : Int) + 1 - l < 41 then (k : Int) + 1 - l else 41)) ↔ l < (u : Int) := by
    split <;> omega
  rw [decide_eq_decide.mpr e1, decide_eq_decide.mpr e2, Bool.and_comm]
theorem mask_rev {b : List Int} {k : Nat} (hb : b.length = k + 2) {c d : Nat → Bool} (h : ∀ u, u ≤ k + 1 → d (k + 1 - u) = c u) : b.reverse.mapIdx (fun u w => if d u then w else 0) = (b.mapIdx fun u w => if c u then w else 0).reverse := by
  rw [List.mapIdx_reverse]
  congr 1
  apply List.ext_getElem?
  intro i
  rw [List.getElem?_mapIdx, List.getElem?_mapIdx]
  cases e : b[i]? with
  | none => rfl
  | some x =>
    have hi : i < b.length := (List.getElem?_eq_some_iff.mp e).1
    show some (if d (b.length - 1 - i) then x else 0) = some (if c i then x else 0)
    rw [hb, show k + 2 - 1 - i = k + 1 - i by omega, h i (by omega)]
theorem open_rev {b : List Int} {k : Nat} (hk : k ≤ 39) (hb : b.length = k + 2) (l h : Int) : openL (tpair k (l, h)).1 (tpair k (l, h)).2 b.reverse = (openL l h b).reverse :=
  mask_rev (c := inB l h) (d := inB (tpair k (l, h)).1 (tpair k (l, h)).2) hb fun u hu => inB_turn hk hu l h
theorem endL_mask (l h : Int) (b : List Int) : endL l h b = b.mapIdx fun u w => if !inB l h u then w else 0 := by
  unfold endL
  congr 1
  funext u w
  cases inB l h u <;> rfl
theorem end_rev {b : List Int} {k : Nat} (hk : k ≤ 39) (hb : b.length = k + 2) (l h : Int) : endL (tpair k (l, h)).1 (tpair k (l, h)).2 b.reverse = (endL l h b).reverse := by
  rw [endL_mask, endL_mask]
  exact mask_rev (c := fun u => !inB l h u) (d := fun u => !inB (tpair k (l, h)).1 (tpair k (l, h)).2 u) hb fun u hu => by rw [inB_turn hk hu l h]
theorem zip_comm (a b : List Int) : List.zipWith (· + ·) a b = List.zipWith (· + ·) b a := by
  apply List.ext_getElem?
  intro i
  rw [List.getElem?_zipWith, List.getElem?_zipWith]
  cases a[i]? <;> cases b[i]? <;> try rfl
  rename_i x y
  show some (x + y) = some (y + x)
  rw [Int.add_comm]
theorem step_rev (a : List Int) : stepH a.reverse = (stepH a).reverse := by
  unfold stepH
  have e1 : a.reverse ++ [0] = (0 :: a).reverse := by simp
  have e2 : 0 :: a.reverse = (a ++ [0]).reverse := by simp
  rw [e1, e2, List.reverse_zipWith (by simp), zip_comm]
theorem rows_rev : ∀ (p : Plan) (a : List Int) (k : Nat), a.length = k + 1 → k + p.length ≤ 40 → endsT (turnP k p) a.reverse = (endsT p a).map List.reverse
  | [], _, _, _, _ => rfl
  | (l, h) :: p, a, k, ha, hk => by
    simp only [List.length_cons] at hk
    have hs : (stepH a).length = k + 2 := by rw [stepH_len, ha]
    have ih := rows_rev p (openL l h (stepH a)) (k + 1) (by rw [openL_len, hs]) (by omega)
    show endL (tpair k (l, h)).1 (tpair k (l, h)).2 (stepH a.reverse) :: endsT (turnP (k + 1) p) (openL (tpair k (l, h)).1 (tpair k (l, h)).2 (stepH a.reverse)) = (endL l h (stepH a)).reverse :: (endsT p (openL l h (stepH a))).map List.reverse
    rw [step_rev, end_rev (by omega) hs, open_rev (by omega) hs, ih]
def mir (t : Int × Int × Int) : Int × Int × Int := (t.1, t.1 - t.2.1, t.2.2)
theorem row_mir {r : List Int} {k : Nat} (hr : r.length = k + 2) : rowPts k r.reverse = ((rowPts k r).map mir).reverse := by
  unfold rowPts enumI
  rw [List.mapIdx_reverse, List.filter_reverse, List.map_reverse, List.map_map]
  congr 1
  have e : r.mapIdx (fun i => (fun u w => (u, w)) (r.length - 1 - i)) = (r.mapIdx fun u w => (u, w)).map fun e => (r.length - 1 - e.1, e.2) := by
    apply List.ext_getElem?
    intro i
    rw [List.getElem?_mapIdx, List.getElem?_map, List.getElem?_mapIdx]
    cases r[i]? <;> rfl
  rw [e, List.filter_map, List.map_map]
  have e2 : ((fun e : Nat × Int => decide (0 < e.2)) ∘ fun e : Nat × Int => (r.length - 1 - e.1, e.2)) = fun e : Nat × Int => decide (0 < e.2) := rfl
  rw [e2]
  apply List.map_congr_left
  intro x hx
  have hx1 := (List.mem_filter.mp hx).1
  rw [List.mem_mapIdx] at hx1
  obtain ⟨i, hi, rfl⟩ := hx1
  show ((k : Int) + 1, ((r.length - 1 - i : Nat) : Int), r[i]) = ((k : Int) + 1, (k : Int) + 1 - (i : Int), r[i])
  congr 2
  omega
theorem pts_mir : ∀ (rs : List (List Int)) (k : Nat), (∀ (i : Nat) (r : List Int), rs[i]? = some r → r.length = k + i + 2) → (ptsT k (rs.map List.reverse)).Perm ((ptsT k rs).map mir)
  | [], _, _ => List.Perm.refl _
  | r :: rs, k, h => by
    have ih := pts_mir rs (k + 1) fun i r' e => by rw [h (i + 1) r' (by simpa using e)]; omega
    show (rowPts k r.reverse ++ ptsT (k + 1) (rs.map List.reverse)).Perm ((rowPts k r ++ ptsT (k + 1) rs).map mir)
    rw [List.map_append, row_mir (h 0 r rfl)]
    exact (List.reverse_perm _).append ih
theorem ends_len2 : ∀ (p : Plan) (a : List Int) (i : Nat) (r : List Int), (endsT p a)[i]? = some r → r.length = a.length + i + 1
  | [], _, _, _, e => by cases e
  | (l, h) :: p, a, 0, r, e => by
    cases e
    show (endL l h (stepH a)).length = _
    rw [endL_len, stepH_len]
  | (l, h) :: p, a, i + 1, r, e => by
    have := ends_len2 p (openL l h (stepH a)) i r (show (endsT p (openL l h (stepH a)))[i]? = some r from e)
    rw [this, openL_len, stepH_len]
    omega
theorem pts_turn {p : Plan} (hp : p.length ≤ 40) : (pts (turnP 0 p)).Perm ((pts p).map mir) := by
  have e : endsT (turnP 0 p) [1] = (endsT p [1]).map List.reverse := rows_rev p [1] 0 rfl (by omega)
  unfold pts
  rw [e]
  exact pts_mir _ 0 fun i r h => by rw [ends_len2 p [1] i r h]; simp; omega
theorem ptC_mir {q : Rat} {p : Plan} (hp : p.length ≤ 40) {t : Int × Int × Int} (ht : t ∈ pts p) : ptC (1 - q) (mir t) = ptC q t := by
  obtain ⟨m, u, l, h, w, hk⟩ := pts_all hp ht
  have hle := hk.le
  rw [ptC_eq hk, hk.eq]
  show (w : Rat) * (1 - q) ^ (((m + 1 : Nat) : Int) - (u : Int)).toNat * (1 - (1 - q)) ^ (((m + 1 : Nat) : Int) - (((m + 1 : Nat) : Int) - (u : Int))).toNat = (w : Rat) * q ^ u * (1 - q) ^ (m + 1 - u)
  rw [show (((m + 1 : Nat) : Int) - (u : Int)).toNat = m + 1 - u by omega, show (((m + 1 : Nat) : Int) - (((m + 1 : Nat) : Int) - (u : Int))).toNat = u by omega, show (1 : Rat) - (1 - q) = q by grind]
  grind
theorem isB_mir {p : Plan} (hP : PlanOk p) {t : Int × Int × Int} (ht : t ∈ pts p) (up : Bool) : isB up (turnP 0 p) (mir t) = isB (!up) p t := by
  obtain ⟨m, u, l, h, w, hk⟩ := pts_all hP.le ht
  have hm : m < p.length := (List.getElem?_eq_some_iff.mp hk.at_).1
  have hle := hk.le
  have hp := hP.le
  have hub := upB_eq hk
  have hop := upl_eq hP hk
  have e1 : upB (turnP 0 p) (mir t) = decide ((u : Int) ≤ l) := by
    unfold upB
    rw [hk.eq]
    show (match (turnP 0 p)[(((m + 1 : Nat) : Int) - 1).toNat]? with
      | some (_, h) => decide (h ≤ ((m + 1 : Nat) : Int) - (u : Int))
      | none => false) = _
    rw [show (((m + 1 : Nat) : Int) - 1).toNat = m by omega, turnP_at p 0 m _ hk.at_, Nat.zero_add]
    show decide ((if (m : Int) + 1 - l < 41 then (m : Int) + 1 - l else 41) ≤ ((m + 1 : Nat) : Int) - (u : Int)) = _
    apply decide_eq_decide.mpr
    split <;> omega
  unfold isB
  rw [e1, hop, hub]
  cases decide (h ≤ (u : Int)) <;> cases up <;> rfl
theorem part_turn {q : Rat} {p : Plan} (hP : PlanOk p) (up : Bool) : partQ (1 - q) (turnP 0 p) up = partQ q p (!up) := by
  unfold partQ
  have h1 := ((pts_turn hP.le).filter (isB up (turnP 0 p))).map (ptC (1 - q))
  rw [FR.sumQ_perm h1, List.filter_map, List.map_map]
  have e1 : (pts p).filter (isB up (turnP 0 p) ∘ mir) = (pts p).filter (isB (!up) p) := List.filter_congr fun t ht => isB_mir hP ht up
  rw [e1]
  congr 1
  apply List.map_congr_left
  intro t ht
  exact ptC_mir hP.le (List.mem_filter.mp ht).1
theorem mean_turn {q : Rat} {p : Plan} (hP : PlanOk p) : meanQ (1 - q) (turnP 0 p) = meanQ q p := by
  unfold meanQ
  have h1 := (pts_turn hP.le).map fun t => (t.1 : Rat) * ptC (1 - q) t
  rw [FR.sumQ_perm h1, List.map_map]
  congr 1
  apply List.map_congr_left
  intro t ht
  show ((mir t).1 : Rat) * ptC (1 - q) (mir t) = _
  rw [ptC_mir hP.le ht]
  rfl
theorem rest_fr (q : Rat) : fr (1 - q) = .tup [.int (((q.den : Nat) : Int) - q.num), .int ((q.den : Nat) : Int)] := by
  have e : 1 - q = Rat.divInt (((q.den : Nat) : Int) - q.num) ((q.den : Nat) : Int) := by
    conv => lhs; rw [← FR.divInt_fr q]
    rw [Rat.divInt_eq_div, Rat.divInt_eq_div, Rat.intCast_sub]
    have hy : (((q.den : Nat) : Int) : Rat) ≠ 0 := fun z => by
      have := Rat.intCast_inj.mp (z.trans Rat.intCast_zero.symm)
      have := FR.den_pos q
      omega
    generalize (((q.den : Nat) : Int) : Rat) = y at *
    grind
  have hg : Int.gcd q.num ((q.den : Nat) : Int) = 1 := by
    show Nat.gcd q.num.natAbs (((q.den : Nat) : Int)).natAbs = 1
    rw [Int.natAbs_natCast]
    exact q.reduced
  rw [e, FR.fr_divInt (FR.den_pos q), Int.gcd_self_sub_left, hg]
  simp
theorem rate_rest {q : Rat} (hq : RateOk q) : RateOk (1 - q) where
  pos := by have := hq.lt; grind
  lt := by have := hq.pos; grind
  den := by
    have h := rest_fr q
    unfold fr at h
    simp at h
    have := hq.den
    omega
end K77
set_option Elab.async false
set_option linter.all false
set_option maxRecDepth 100000
set_option maxHeartbeats 2000000
namespace K77
open PySem DC
open FR (sumQ pc fr SzR Dv Few LowOk SumOk)
/-! ### _law_turned_right -/
theorem tr_loop {pl rt : D} {μ : Store} : ∀ (p : Plan) (k : Nat) (ds : List D) (s3 s4 s5 : Sl), ds.length + p.length ≤ 1000 → ∃ s3' s4' s5',
    sForL (gT (gC (gN 3) (gC (gT (gC (gN 4) (gC (gN 5) gE))) gE))) L__law_turned_right_1 (enumP k p) [.fz pl, .fz rt, .ow (.lst ds), s3, s4, s5, .no, .no] μ =
    .nx [.fz pl, .fz rt, .ow (.lst (ds ++ (turnP k p).map pairI)), s3', s4', s5', .no, .no] μ ∧ (p ≠ [] → ∃ a b c, s3' = .fz a ∧ s4' = .fz b ∧ s5' = .fz c)
  | [], k, ds, s3, s4, s5, _ => ⟨s3, s4, s5, by simp [enumP, turnP], fun z => absurd rfl z⟩
  | (l, h) :: p, k, ds, s3, s4, s5, hl => by
    simp only [List.length_cons] at hl
    obtain ⟨s3', s4', s5', e, hf⟩ := tr_loop (pl := pl) (rt := rt) (μ := μ) p (k + 1) (ds ++ [pairI (tpair k (l, h))]) (.fz (.int (k : Nat))) (.fz (.int l)) (.fz (.int h)) (by simp; omega)
    refine ⟨s3', s4', s5', ?_, fun _ => ?_⟩
    · have mx : max2D [.int (-1), .int ((k : Nat) + 1 - h)] = some (.int (tpair k (l, h)).1) := rfl
      have mn : min2D [.int 41, .int ((k : Nat) + 1 - l)] = some (.int (tpair k (l, h)).2) := rfl
      have ha := ev_app (ρ := [.fz pl, .fz rt, .ow (.lst ds), .fz (.int (k : Nat)), .fz (.int l), .fz (.int h), .no, .no]) (μ := μ) (i := 2) (f := xTup (lCons (xCb max2D (lCons (xUn negD (xC (.int 1))) (lCons (xBin subD (xBin addD (xVar 3) (xC (.int 1))) (xVar 5)) lNil))) (lCons (xCb min2D (lCons (xC (.int 41)) (lCons (xBin subD (xBin addD (xVar 3) (xC (.int 1))) (xVar 4)) lNil))) lNil))) (ds := ds) (d := pairI (tpair k (l, h))) (μ' := μ) rfl (by simp [mx, mn, pairI]) (by omega)
      show sForL _ _ (.tup [.int (k : Nat), pairI (l, h)] :: enumP (k + 1) p) _ μ = _
      rw [forL_cons (ρ1 := [.fz pl, .fz rt, .ow (.lst ds), .fz (.int (k : Nat)), .fz (.int l), .fz (.int h), .no, .no]) (ρ2 := [.fz pl, .fz rt, .ow (.lst (ds ++ [pairI (tpair k (l, h))])), .fz (.int (k : Nat)), .fz (.int l), .fz (.int h), .no, .no]) (μ2 := μ) rfl ha, e]
      simp [turnP]
    · cases p with
      | nil =>
        have : sForL (gT (gC (gN 3) (gC (gT (gC (gN 4) (gC (gN 5) gE))) gE))) L__law_turned_right_1 (enumP (k + 1) []) [.fz pl, .fz rt, .ow (.lst (ds ++ [pairI (tpair k (l, h))])), .fz (.int (k : Nat)), .fz (.int l), .fz (.int h), .no, .no] μ = .nx [.fz pl, .fz rt, .ow (.lst (ds ++ [pairI (tpair k (l, h))])), .fz (.int (k : Nat)), .fz (.int l), .fz (.int h), .no, .no] μ := rfl
        rw [this] at e
        injection e with e1 _
        simp at e1
        exact ⟨_, _, _, e1.2.1.symm, e1.2.2.1.symm, e1.2.2.2.symm⟩
      | cons x p => exact hf (by simp)
def badB (x : Int × Int) : Bool := !decide (x.1 < x.2)
def badF : D → Bool
  | .tup [.int a, .int b] => badB (a, b)
  | _ => false
theorem tr_c {pl rt : D} {xs : List (Int × Int)} {a b c : D} {μ : Store} (hl : xs.length ≤ 1000) : C__law_turned_right_2 [.fz pl, .fz rt, .fz (.lst (xs.map pairI)), .fz a, .fz b, .fz c, .no, .no] μ = .ok (.lst ((xs.filter badB).map fun _ => .int 1)) μ := by
  refine (ev_lc (p := badF) (h := fun _ => .int 1) (ds := xs.map pairI) (μ' := μ) (by simp) rfl (by simp; omega) fun d hd => ?_).trans ?_
  · obtain ⟨x, _, rfl⟩ := List.mem_map.mp hd
    refine ⟨[.fz pl, .fz rt, .fz (.lst (xs.map pairI)), .fz a, .fz (.int x.1), .fz (.int x.2), .no, .no], rfl, ?_, fun _ => rfl⟩
    generalize D.lst (xs.map pairI) = Z
    simp [badF, badB, pairI]
  · rw [List.filter_map, List.map_map]
    rfl
theorem ne_nil {n : Nat} {xs : List D} (hn : n < 60) (h : xs.all (D.pd n) = true) : neD (.lst xs) (.lst []) = some (.bl (decide (xs ≠ []))) := by
  unfold neD
  have h1 : D.pd 60 (.lst xs) = true := pd_mono (n + 1) 60 _ (by omega) h
  have h2 : D.pd 60 (.lst []) = true := rfl
  rw [h1, h2]
  show some (D.bl (!D.eqv (.lst xs) (.lst []))) = _
  congr 2
  unfold D.eqv
  cases xs with
  | nil => simp [D.toPy, D.toPyA, PyData.eqv, PyData.eqvAll]
  | cons x xs => simp [D.toPy, D.toPyA, PyData.eqv, PyData.eqvAll]
theorem turn_spec {q : Rat} (hq : RateOk q) {p : Plan} (hP : PlanOk p) (μ : Store) : g__law_turned_right [planD p, fr q] μ = .ok (.bl true) μ := by
  have hp := hP.le
  have hpos := hP.pos
  obtain ⟨s3, s4, s5, e1, hf⟩ := tr_loop (pl := planD p) (rt := fr q) (μ := μ) p 0 [] .no .no .no (by simp; omega)
  obtain ⟨da, db, dc, rfl, rfl, rfl⟩ := hf (plan_ne hP)
  rw [List.nil_append] at e1
  have hen : wEnumA (xVar 0) [.fz (planD p), .fz (fr q), .ow (.lst []), .no, .no, .no, .no, .no] μ = .ok (enumP 0 p) μ := by
    have h := enumP_eq 0 p
    have e : (fun (i : Nat) (x : D) => D.tup [.int ((0 + i : Nat) : Int), x]) = fun i x => D.tup [.int ((i : Nat) : Int), x] := by
      funext i x
      rw [Nat.zero_add]
    rw [e] at h
    unfold wEnumA
    simp [planD]
    exact h
  have hlen := turnP_len 0 p
  have hne : turnP 0 p ≠ [] := fun z => by rw [z] at hlen; simp at hlen; omega
  obtain ⟨ys, y, hy⟩ : ∃ ys y, turnP 0 p = ys ++ [y] := ⟨_, _, (List.dropLast_concat_getLast hne).symm⟩
  have hat : ixS μ (.lst ((turnP 0 p).map pairI)) (.int (-1)) = some (pairI y) := by
    show L2.atI ((turnP 0 p).map pairI) (-1) = _
    rw [hy, List.map_append]
    exact L2.atI_last _ _
  have hc := tr_c (pl := planD p) (rt := fr q) (xs := turnP 0 p) (a := da) (b := db) (c := dc) (μ := μ) (by omega)
  have hbn : neD (.lst (((turnP 0 p).filter badB).map fun _ => D.int 1)) (.lst []) = some (.bl (decide (((turnP 0 p).filter badB).map (fun _ => D.int 1) ≠ []))) := ne_nil (n := 1) (by decide) (by
    rw [List.all_eq_true]
    intro x hx
    obtain ⟨_, _, rfl⟩ := List.mem_map.mp hx
    rfl)
  have hne2 := ev_neII y.2 (y.1 + 1)
  by_cases hb : (turnP 0 p).filter badB = []
  · by_cases hl : y.2 = y.1 + 1
    · -- a plan: the chances are turned about
      have hT : PlanOk (turnP 0 p) := by
        refine ⟨by omega, by omega, fun x hx => ?_, fun x hx => ?_⟩
        · have h1 := List.filter_eq_nil_iff.mp hb x hx
          unfold badB at h1
          have h2 : x.1 < x.2 := by
            by_cases h3 : x.1 < x.2
            · exact h3
            · simp [h3] at h1
          have gen : ∀ (p : Plan) (k : Nat) (x : Int × Int), x ∈ turnP k p → -1 ≤ x.1 ∧ x.2 ≤ 41 := by
            intro p
            induction p with
            | nil => intro k x h; cases h
            | cons z p ih =>
              intro k x h
              rcases List.mem_cons.mp (show x ∈ tpair k z :: turnP (k + 1) p from h) with e | h
              · rw [e]
                unfold tpair
                refine ⟨?_, ?_⟩
                · show -1 ≤ (if (k : Int) + 1 - z.2 > -1 then (k : Int) + 1 - z.2 else -1)
                  split <;> omega
                · show (if (k : Int) + 1 - z.1 < 41 then (k : Int) + 1 - z.1 else 41) ≤ 41
                  split <;> omega
              · exact ih _ _ h
          have h3 := gen p 0 x hx
          exact ⟨h3.1, h2, h3.2⟩
        · rw [hy, List.getLast?_append] at hx
          simp at hx
          rw [← hx]; exact hl
      have hq' := rate_rest hq
      have u1 := up_spec hq' hT μ
      have u2 := down_spec hq' hT μ
      have u3 := mean_trials_spec hq' hT μ
      rw [part_turn hP] at u1 u2
      rw [mean_turn hP] at u3
      have v1 := down_spec hq hP μ
      have v2 := up_spec hq hP μ
      have v3 := mean_trials_spec hq hP μ
      have k := like_3 (fr (partQ q p false)) (fr (partQ q p true)) (fr (meanQ q p)) μ fun d hd => by
        simp only [List.mem_cons, List.not_mem_nil, or_false] at hd
        rcases hd with rfl | rfl | rfl
        · exact fr_11 _
        · exact fr_11 _
        · exact fr_11 _
      have ht : tupleD [.lst ((turnP 0 p).map pairI)] = some (planD (turnP 0 p)) := rfl
      have hr := rest_fr q
      rw [hb] at hc hbn
      have nn : neD (.lst []) (.lst []) = some (.bl false) := by simpa using hbn
      have hd2 : decide (y.2 = y.1 + 1) = true := decide_eq_true hl
      rw [hd2] at hne2
      generalize D.lst ((turnP 0 p).map pairI) = Z at hat hc ht e1
      unfold g__law_turned_right F__law_turned_right
      simp only [Bool.not_true] at u1 hne2
      simp only [Bool.not_false] at u2
      rw [hr] at u1 u2 u3
      simp [hen, e1, frzE, xIxO, hc, nn, hat, ix_pair0, ix_pair1, hl, FR.ix0, FR.ix1, ht, u1, u2, u3, v1, v2, v3, k]
    · rw [hb] at hc hbn
      have nn : neD (.lst []) (.lst []) = some (.bl false) := by simpa using hbn
      have hd2 : decide (y.2 = y.1 + 1) = false := decide_eq_false hl
      generalize D.lst ((turnP 0 p).map pairI) = Z at hat hc e1
      unfold g__law_turned_right F__law_turned_right
      simp [hen, e1, frzE, xIxO, hc, nn, hat, ix_pair0, ix_pair1, hl]
  · have hd : decide (((turnP 0 p).filter badB).map (fun _ => D.int 1) ≠ []) = true := decide_eq_true fun z => hb (List.map_eq_nil_iff.mp z)
    rw [hd] at hbn
    generalize D.lst ((turnP 0 p).map pairI) = Z at hat hc e1
    generalize D.lst (((turnP 0 p).filter badB).map fun _ => D.int 1) = Y at hc hbn
    unfold g__law_turned_right F__law_turned_right
    simp [hen, e1, frzE, hc, hbn]
end K77
set_option Elab.async false
set_option linter.all false
set_option maxRecDepth 100000
set_option maxHeartbeats 2000000
namespace K77
open PySem DC
open FR (sumQ pc fr SzR Dv Few LowOk SumOk)
/-! ### rates drawn -/
theorem rate_mk {a b : Int} (h1 : 0 < a) (h2 : a < b) (h3 : b ≤ 30) : RateOk (Rat.divInt a b) := by
  have hb : 0 < b := by omega
  have e1 := FR.num_of (a := a) hb
  have e2 := FR.den_of (a := a) hb
  have hg := FR.gcd_pos (a := a) hb
  have l2 : b / (Int.gcd a b : Int) ≤ b := Int.ediv_le_self _ (by omega)
  have hy : (0 : Rat) < (b : Rat) := Rat.intCast_pos.mpr hb
  have hx : (0 : Rat) < (a : Rat) := Rat.intCast_pos.mpr h1
  have hxy : (a : Rat) < (b : Rat) := Rat.intCast_lt_intCast.mpr h2
  refine ⟨?_, ?_, by omega⟩
  · rw [Rat.divInt_eq_div]
    exact (Rat.lt_div_iff hy).mpr (by grind)
  · rw [Rat.divInt_eq_div]
    exact (Rat.div_lt_iff hy).mpr (by grind)
theorem rate_spec {μ : Store} (hc : CupOk μ) : ∃ q μ', g__law_rate [.own 0] μ = .ok (fr q) μ' ∧ CupOk μ' ∧ RateOk q := by
  obtain ⟨v, μ1, e1, c1, v0, v1⟩ := roll_spec (many := 29) hc (by decide) (by decide)
  obtain ⟨w, μ2, e2, c2, w0, w1⟩ := roll_spec (many := 2 + v - 1) c1 (by omega) (by omega)
  have e3 := least_ok (1 + w) (2 + v) μ2 (by omega) (by show (2 + v).natAbs < 2 ^ 8990; exact FR.lt_pow (m := 5) (by omega) (by decide))
  refine ⟨_, μ2, ?_, c2, rate_mk (a := 1 + w) (b := 2 + v) (by omega) (by omega) (by omega)⟩
  unfold g__law_rate F__law_rate
  simp [e1, e2, e3]
/-! ### wide plans ahead -/
def wideP (p : Plan) : Plan := List.replicate (40 - p.length) ((-1 : Int), (41 : Int)) ++ p
theorem wideP_ok {p : Plan} (hP : PlanOk p) : PlanOk (wideP p) where
  pos := by unfold wideP; rw [List.length_append, List.length_replicate]; have := hP.pos; omega
  le := by unfold wideP; rw [List.length_append, List.length_replicate]; have := hP.le; omega
  ok := fun x hx => by
    unfold wideP at hx
    rcases List.mem_append.mp hx with h | h
    · rw [List.eq_of_mem_replicate h]
      refine ⟨?_, ?_, ?_⟩ <;> decide
    · exact hP.ok x h
  last := fun x hx => by
    unfold wideP at hx
    rw [List.getLast?_append] at hx
    cases e : p.getLast? with
    | none => exact absurd (List.getLast?_eq_none_iff.mp e) (plan_ne hP)
    | some y =>
      rw [e] at hx
      have : y = x := Option.some.inj hx
      subst this
      exact hP.last y e
theorem wideP_D (p : Plan) : planD (wideP p) = .tup (List.replicate (40 - p.length) (pairI (-1, 41)) ++ p.map pairI) := by
  unfold planD wideP
  rw [List.map_append, List.map_replicate]
/-! ### the plan that ends with the first up -/
def gP (m : Nat) : Plan := List.replicate m ((-1 : Int), (1 : Int)) ++ [(0, 1)]
theorem gP_len (m : Nat) : (gP m).length = m + 1 := by unfold gP; simp
theorem gP_ok {m : Nat} (hm : m ≤ 39) : PlanOk (gP m) where
  pos := by rw [gP_len]; omega
  le := by rw [gP_len]; omega
  ok := fun x hx => by
    unfold gP at hx
    rcases List.mem_append.mp hx with h | h
    · rw [List.eq_of_mem_replicate h]
      refine ⟨?_, ?_, ?_⟩ <;> decide
    · rw [List.mem_singleton.mp h]
      refine ⟨?_, ?_, ?_⟩ <;> decide
  last := fun x hx => by
    unfold gP at hx
    rw [List.getLast?_append] at hx
    simp at hx
    subst hx
    rfl
theorem gP_high {m : Nat} {x : Int × Int} {i : Nat} (h : (gP m)[i]? = some x) : x.2 = 1 := by
  have hx := List.mem_of_getElem? h
  unfold gP at hx
  rcases List.mem_append.mp hx with h | h
  · rw [List.eq_of_mem_replicate h]
  · rw [List.mem_singleton.mp h]
def zs (k : Nat) : List Int := List.replicate k 0
theorem step_one (k : Nat) : stepH (1 :: zs k) = 1 :: 1 :: zs k := by
  have gen : ∀ (k : Nat) (x : Int), stepZ x (zs k) = x :: zs k := by
    intro k
    induction k with
    | zero => intro x; show [0 + x] = [x]; rw [Int.zero_add]
    | succ k ih =>
      intro x
      show (0 + x) :: stepZ 0 (zs k) = x :: 0 :: zs k
      rw [ih 0, Int.zero_add]
  rw [stepH_Z]
  show (1 + 0) :: stepZ 1 (zs k) = _
  rw [gen k 1]
  rfl
theorem mask_zs (c : Nat → Bool) (k : Nat) : (zs k).mapIdx (fun u w => if c u then w else 0) = zs k := by
  apply List.ext_getElem?
  intro i
  rw [List.getElem?_mapIdx]
  unfold zs
  rw [List.getElem?_replicate]
  by_cases h : i < k
  · rw [if_pos h]
    show some (if c i then (0 : Int) else 0) = some 0
    split <;> rfl
  · rw [if_neg h]; rfl
theorem inB_one (l : Int) (u : Nat) : inB l 1 (u + 1) = false := by
  unfold inB
  rw [decide_eq_false (show ¬ ((u + 1 : Nat) : Int) < 1 by omega), Bool.and_false]
theorem open_one (k : Nat) : openL (-1) 1 (1 :: 1 :: zs k) = 1 :: zs (k + 1) := by
  unfold openL
  rw [List.mapIdx_cons, List.mapIdx_cons]
  have e : (zs k).mapIdx (fun i w => if inB (-1) 1 (i + 1 + 1) then w else 0) = zs k := mask_zs (fun i => inB (-1) 1 (i + 1 + 1)) k
  rw [e]
  rfl
theorem end_one (l : Int) (k : Nat) : endL l 1 (1 :: 1 :: zs k) = (if inB l 1 0 then 0 else 1) :: 1 :: zs k := by
  rw [endL_mask, List.mapIdx_cons, List.mapIdx_cons]
  have e : (zs k).mapIdx (fun i w => if !inB l 1 (i + 1 + 1) then w else 0) = zs k := mask_zs (fun i => !inB l 1 (i + 1 + 1)) k
  rw [e, inB_one l 0]
  cases inB l 1 0 <;> rfl
theorem rowPts_snoc0 (k : Nat) (a : List Int) : rowPts k (a ++ [0]) = rowPts k a := by
  unfold rowPts
  rw [enumI_snoc, List.filter_append, List.map_append]
  simp
theorem rowPts_zs (j : Nat) (a : List Int) : ∀ k, rowPts j (a ++ zs k) = rowPts j a
  | 0 => by show rowPts j (a ++ []) = _; rw [List.append_nil]
  | k + 1 => by
    have : zs (k + 1) = zs k ++ [0] := by unfold zs; rw [List.replicate_succ']
    rw [this, ← List.append_assoc, rowPts_snoc0, rowPts_zs j a k]
def gpts : Nat → Nat → List (Int × Int × Int)
  | k, 0 => [((k : Int) + 1, 0, 1), ((k : Int) + 1, 1, 1)]
  | k, m + 1 => ((k : Int) + 1, 1, 1) :: gpts (k + 1) m
theorem gP_pts : ∀ (m k : Nat), ptsT k (endsT (gP m) (1 :: zs k)) = gpts k m
  | 0, k => by
    show rowPts k (endL 0 1 (stepH (1 :: zs k))) ++ [] = _
    rw [step_one, end_one, List.append_nil]
    have : (if inB 0 1 0 then (0 : Int) else 1) :: 1 :: zs k = [1, 1] ++ zs k := rfl
    rw [this, rowPts_zs]
    rfl
  | m + 1, k => by
    show rowPts k (endL (-1) 1 (stepH (1 :: zs k))) ++ ptsT (k + 1) (endsT (gP m) (openL (-1) 1 (stepH (1 :: zs k)))) = _
    rw [step_one, end_one, open_one, gP_pts m (k + 1)]
    have : (if inB (-1) 1 0 then (0 : Int) else 1) :: 1 :: zs k = [0, 1] ++ zs k := rfl
    rw [this, rowPts_zs]
    rfl
theorem pts_gP (m : Nat) : pts (gP m) = gpts 0 m := gP_pts m 0
theorem gpts_u : ∀ (m k : Nat) (t : Int × Int × Int), t ∈ gpts k m → t.2.1 = 0 ∨ t.2.1 = 1
  | 0, k, t, h => by
    simp only [gpts, List.mem_cons, List.not_mem_nil, or_false] at h
    rcases h with rfl | rfl
    · left; rfl
    · right; rfl
  | m + 1, k, t, h => by
    rcases List.mem_cons.mp (show t ∈ ((k : Int) + 1, 1, 1) :: gpts (k + 1) m from h) with rfl | h
    · right; rfl
    · exact gpts_u m (k + 1) t h
theorem gpts_down : ∀ (m k : Nat), (gpts k m).filter (fun t => decide (t.2.1 < 1)) = [(((k + m + 1 : Nat) : Int), 0, 1)]
  | 0, k => rfl
  | m + 1, k => by
    show (((k : Int) + 1, 1, 1) :: gpts (k + 1) m).filter _ = _
    rw [List.filter_cons_of_neg (by show ¬ decide ((1 : Int) < 1) = true; decide), gpts_down m (k + 1), show k + 1 + m + 1 = k + (m + 1) + 1 by omega]
theorem gP_up {m : Nat} (hm : m ≤ 39) {t : Int × Int × Int} (ht : t ∈ pts (gP m)) (up : Bool) : isB up (gP m) t = (decide (1 ≤ t.2.1) == up) := by
  obtain ⟨j, u, l, h, w, hk⟩ := pts_all (gP_ok hm).le ht
  have h1 := gP_high hk.at_
  have e2 : t.2.1 = (u : Int) := by rw [hk.eq]
  unfold isB
  rw [upB_eq hk, e2]
  have : h = 1 := h1
  rw [this]
theorem gP_down {q : Rat} {m : Nat} (hm : m ≤ 39) : partQ q (gP m) false = (1 - q) ^ (m + 1) := by
  unfold partQ
  have e : (pts (gP m)).filter (isB false (gP m)) = (pts (gP m)).filter fun t => decide (t.2.1 < 1) := List.filter_congr fun t ht => by
    rw [gP_up hm ht]
    by_cases h : 1 ≤ t.2.1
    · rw [decide_eq_true h, decide_eq_false (by omega)]; rfl
    · rw [decide_eq_false h, decide_eq_true (by omega)]; rfl
  rw [e, pts_gP, gpts_down]
  show ptC q (((0 + m + 1 : Nat) : Int), 0, 1) + 0 = _
  show ((1 : Int) : Rat) * q ^ (0 : Int).toNat * (1 - q) ^ ((((0 + m + 1 : Nat) : Int)) - 0).toNat + 0 = _
  rw [show ((((0 + m + 1 : Nat) : Int)) - 0).toNat = m + 1 by omega, show (0 : Int).toNat = 0 from rfl]
  have : ((1 : Int) : Rat) = 1 := rfl
  rw [this]; grind
theorem gP_mean {q : Rat} (hq : RateOk q) {m : Nat} (hm : m ≤ 39) : meanQ q (gP m) = (1 - (1 - q) ^ (m + 1)) * q⁻¹ := by
  have h1 := wald (q := q) (gP_ok hm)
  have h2 : upsQ q (gP m) = partQ q (gP m) true := by
    unfold upsQ partQ
    have gen : ∀ l : List (Int × Int × Int), (∀ t, t ∈ l → t ∈ pts (gP m)) → sumQ (l.map fun t => (t.2.1 : Rat) * ptC q t) = sumQ ((l.filter (isB true (gP m))).map (ptC q)) := by
      intro l
      induction l with
      | nil => intro _; rfl
      | cons t l ih =>
        intro hl
        have ih' := ih fun x hx => hl x (List.mem_cons_of_mem _ hx)
        have ht := hl t (by simp)
        have hu := gpts_u m 0 t (by rw [← pts_gP]; exact ht)
        have hb := gP_up hm ht true
        show (t.2.1 : Rat) * ptC q t + sumQ (l.map fun t => (t.2.1 : Rat) * ptC q t) = _
        rcases hu with h | h
        · rw [h] at hb
          rw [List.filter_cons_of_neg (by rw [hb]; decide), ih', h]
          have : ((0 : Int) : Rat) = 0 := rfl
          rw [this]; grind
        · rw [h] at hb
          rw [List.filter_cons_of_pos (by rw [hb]; decide), ih', h]
          show _ = ptC q t + sumQ _
          have : ((1 : Int) : Rat) = 1 := rfl
          rw [this]; grind
    exact gen _ fun _ h => h
  have h3 := parts_one (q := q) (gP_ok hm)
  rw [gP_down hm] at h3
  have hq0 := hq.pos
  have hne : q ≠ 0 := fun z => by rw [z] at hq0; exact absurd hq0 (by decide)
  rw [h2] at h1
  grind
theorem gP_first {m : Nat} (hm : m ≤ 39) : ∃ l h, PtOk (gP m) (1, 1, 1) 0 1 l h 1 ∧ ((1 : Int), (1 : Int), (1 : Int)) ∈ pts (gP m) ∧ bgT (gP m) 0 1 = 1 := by
  have hin : ((1 : Int), (1 : Int), (1 : Int)) ∈ pts (gP m) := by
    rw [pts_gP]
    cases m with
    | zero => exact List.mem_cons_of_mem _ (List.mem_singleton.mpr rfl)
    | succ m => exact List.mem_cons_self
  obtain ⟨x, hx⟩ : ∃ x, (gP m)[0]? = some x := ⟨_, List.getElem?_eq_getElem (by rw [gP_len]; omega)⟩
  obtain ⟨l, h⟩ := x
  have hh : h = 1 := gP_high hx
  subst hh
  refine ⟨l, 1, ⟨rfl, hx, by omega, by decide, by decide, .inr (by decide)⟩, hin, ?_⟩
  unfold bgT
  rw [hx]
  have e : bH (gP m) [0, 1] 0 = [0, 1] := by
    cases gP m <;> rfl
  show (endL l 1 (bH (gP m) [0, 1] 0)).getD 1 0 = 1
  rw [e, endL_mask]
  show (if !inB l 1 (0 + 1) then (1 : Int) else 0) = 1
  rw [inB_one]
  rfl
theorem gP_D (m : Nat) : planD (gP m) = .tup (List.replicate m (pairI (-1, 1)) ++ [pairI (0, 1)]) := by
  unfold planD gP
  rw [List.map_append, List.map_replicate]
  rfl
end K77
set_option Elab.async false
set_option linter.all false
set_option maxRecDepth 100000
set_option maxHeartbeats 2000000
namespace K77
open PySem DC
open FR (sumQ pc fr SzR Dv Few LowOk SumOk)
/-! ### the law -/
theorem r12 : RateOk (1 / 2) := ⟨by decide +kernel, by decide +kernel, by decide +kernel⟩
theorem r13 : RateOk (1 / 3) := ⟨by decide +kernel, by decide +kernel, by decide +kernel⟩
theorem r25 : RateOk (2 / 5) := ⟨by decide +kernel, by decide +kernel, by decide +kernel⟩
theorem f12 : (.tup [.int 1, .int 2] : D) = fr (1 / 2) := by
  have e1 : (1 / 2 : Rat).num = 1 := by decide +kernel
  have e2 : (1 / 2 : Rat).den = 2 := by decide +kernel
  unfold fr; rw [e1, e2]; rfl
theorem f13 : (.tup [.int 1, .int 3] : D) = fr (1 / 3) := by
  have e1 : (1 / 3 : Rat).num = 1 := by decide +kernel
  have e2 : (1 / 3 : Rat).den = 3 := by decide +kernel
  unfold fr; rw [e1, e2]; rfl
theorem f25 : (.tup [.int 2, .int 5] : D) = fr (2 / 5) := by
  have e1 : (2 / 5 : Rat).num = 2 := by decide +kernel
  have e2 : (2 / 5 : Rat).den = 5 := by decide +kernel
  unfold fr; rw [e1, e2]; rfl
theorem pts3 : pts some3 = [(2, 0, 1), (2, 2, 1), (3, 1, 2), (3, 2, 2)] := by decide
theorem nums3 : nums some3 = [2, 3] := by decide
theorem told_u (μ : Store) : g_chance_up [planD some3, .tup [.int 1, .int 2]] μ = .ok (.tup [.int 1, .int 2]) μ := by
  have h := up_spec r12 some3_ok μ
  have e : partQ (1 / 2) some3 true = 1 / 2 := by decide +kernel
  rw [e] at h
  rw [f12]; exact h
theorem told_d' (μ : Store) : g_chance_down [planD some3, .tup [.int 1, .int 3]] μ = .ok (.tup [.int 20, .int 27]) μ := by
  have h := down_spec r13 some3_ok μ
  have e1 : (partQ (1 / 3) some3 false).num = 20 := by decide +kernel
  have e2 : (partQ (1 / 3) some3 false).den = 27 := by decide +kernel
  unfold fr at h
  rw [e1, e2] at h
  have e3 : (1 / 3 : Rat).num = 1 := by decide +kernel
  have e4 : (1 / 3 : Rat).den = 3 := by decide +kernel
  rw [e3, e4] at h
  exact h
theorem told_t (μ : Store) : g_trial_chances [planD some3, .tup [.int 1, .int 2]] μ = .ok (.tup [.tup [.int 2, .tup [.int 1, .int 2]], .tup [.int 3, .tup [.int 1, .int 2]]]) μ := by
  have h := trial_spec r12 some3_ok μ
  have e : trD (1 / 2) some3 = [.tup [.int 2, .tup [.int 1, .int 2]], .tup [.int 3, .tup [.int 1, .int 2]]] := by
    unfold trD
    rw [nums3]
    have e1 : trQ (1 / 2) some3 2 = 1 / 2 := by decide +kernel
    have e2 : trQ (1 / 2) some3 3 = 1 / 2 := by decide +kernel
    show [D.tup [.int 2, fr (trQ (1 / 2) some3 2)], D.tup [.int 3, fr (trQ (1 / 2) some3 3)]] = _
    rw [e1, e2, f12]
  rw [e] at h
  rw [f12] at *
  exact h
theorem told_m (μ : Store) : g_mean_trials [planD some3, .tup [.int 1, .int 3]] μ = .ok (.tup [.int 22, .int 9]) μ := by
  have h := mean_trials_spec r13 some3_ok μ
  have e1 : (meanQ (1 / 3) some3).num = 22 := by decide +kernel
  have e2 : (meanQ (1 / 3) some3).den = 9 := by decide +kernel
  unfold fr at h
  rw [e1, e2] at h
  have e3 : (1 / 3 : Rat).num = 1 := by decide +kernel
  have e4 : (1 / 3 : Rat).den = 3 := by decide +kernel
  rw [e3, e4] at h
  exact h
theorem told_e' (μ : Store) : g_end_chance [planD some3, .tup [.int 1, .int 3], .int 3, .int 1] μ = .ok (.tup [.int 8, .int 27]) μ := by
  have h := end_chance_spec r13 some3_ok (t := (3, 1, 2)) (by rw [pts3]; simp) μ
  have e1 : (ptC (1 / 3) (3, 1, 2)).num = 8 := by decide +kernel
  have e2 : (ptC (1 / 3) (3, 1, 2)).den = 27 := by decide +kernel
  unfold fr at h
  rw [e1, e2] at h
  have e3 : (1 / 3 : Rat).num = 1 := by decide +kernel
  have e4 : (1 / 3 : Rat).den = 3 := by decide +kernel
  rw [e3, e4] at h
  exact h
theorem told_s (μ : Store) : g_share_mean [planD some3, .tup [.int 2, .int 5]] μ = .ok (.tup [.int 2, .int 5]) μ := by
  have h := share_mean_spec r25 some3_ok μ
  rw [f25]; exact h
def toldL : List D := [.tup [.int 1, .int 2], .tup [.int 20, .int 27], .tup [.tup [.int 2, .tup [.int 1, .int 2]], .tup [.int 3, .tup [.int 1, .int 2]]], .tup [.int 22, .int 9], .tup [.int 8, .int 27], .tup [.int 2, .int 5]]
theorem toldL_like (μ : Store) : g__law_like 12 [.lst toldL, .lst toldL] μ = .ok (.bl true) μ := like12 μ rfl rfl
theorem mul_flat {m : Nat} (h : m ≤ 1000) (x : D) : mulT (.tup [x]) (.int (m : Nat)) = some (.tup (List.replicate m x)) := by
  have e : (List.replicate ((m : Int)).toNat [x]).flatten = List.replicate m x := by
    rw [Int.toNat_natCast]
    clear h
    induction m with
    | zero => rfl
    | succ m ih => rw [List.replicate_succ, List.flatten_cons, ih]; rfl
  have c : (decide (-1000 ≤ (m : Int)) && decide ((m : Int) ≤ 1000) && Nat.ble [x].length 1000) = true := by
    have h1 : -1000 ≤ (m : Int) := by omega
    have h2 : (m : Int) ≤ 1000 := by omega
    rw [decide_eq_true h1, decide_eq_true h2]
    rfl
  show (if (decide (-1000 ≤ (m : Int)) && decide ((m : Int) ≤ 1000) && Nat.ble [x].length 1000) = true then some (D.tup (List.replicate ((m : Int)).toNat [x]).flatten) else none) = _
  rw [if_pos c, e]
theorem wide_mul {p : Plan} (hP : PlanOk p) : mulT (.tup [.tup [.int (-1), .int 41]]) (.int (40 - (p.length : Nat))) = some (.tup (List.replicate (40 - p.length) (pairI (-1, 41)))) := by
  have := mul_flat (m := 40 - p.length) (by omega) (pairI (-1, 41))
  have hp := hP.le
  rw [show ((40 - p.length : Nat) : Int) = 40 - (p.length : Nat) by omega] at this
  exact this
theorem loop_step {s0 s2 s3 s5 s6 : Sl} {m : Int} (m0 : 0 < m) (m1 : m ≤ 40) {μ : Store} (hc : CupOk μ) : ∃ s5' s6' μ', L_law_1 [s0, .fz (.own 0), s2, s3, .fz (.int m), s5, s6, .no, .no, .no] μ = .nx [s0, .fz (.own 0), s2, s3, .fz (.int m), s5', s6', .no, .no, .no] μ' ∧ CupOk μ' := by
  obtain ⟨p, μ1, e1, c1, hP, _⟩ := plan_spec hc m0 m1
  obtain ⟨q, μ2, e2, c2, hq⟩ := rate_spec c1
  by_cases hm : m = 40
  · subst hm
    obtain ⟨v, μ3, e3, c3, v0, v1⟩ := roll_spec (many := 3) c2 (by decide) (by decide)
    have e4 := least_ok 1 (2 + v) μ3 (by omega) (by show (2 + v).natAbs < 2 ^ 8990; exact FR.lt_pow (m := 5) (by omega) (by decide))
    have hq' : RateOk (Rat.divInt 1 (2 + v)) := rate_mk (by decide) (by omega) (by omega)
    have hW := wideP_ok hP
    obtain ⟨μ4, e5, c5⟩ := right_spec hq' hW c3
    have e6 := turn_spec hq' hW μ4
    have el : lenD [planD p] = some (.int (p.length : Nat)) := by
      show some (D.int ((p.map pairI).length : Nat)) = _
      rw [List.length_map]
    have hmul := wide_mul hP
    have hle := hP.le
    have hadd := addT_ok (xs := List.replicate (40 - p.length) (pairI (-1, 41))) (ys := p.map pairI) (by simp; omega)
    rw [← wideP_D] at hadd
    have hadd' : addD (.tup (List.replicate (40 - p.length) (pairI (-1, 41)))) (planD p) = some (planD (wideP p)) := hadd
    refine ⟨.fz (planD (wideP p)), .fz (fr (Rat.divInt 1 (2 + v))), μ4, ?_, c5⟩
    simp [e1, e2, el, hmul, hadd', e3, e4, e5, e6]
  · obtain ⟨μ4, e5, c5⟩ := right_spec hq hP c2
    have e6 := turn_spec hq hP μ4
    refine ⟨.fz (planD p), .fz (fr q), μ4, ?_, c5⟩
    simp [e1, e2, hm, e5, e6]
theorem loop_all {s0 s2 s3 : Sl} : ∀ (ms : List Int) (s4 s5 s6 : Sl) (μ : Store), (∀ m, m ∈ ms → 0 < m ∧ m ≤ 40) → CupOk μ → ∃ s4' s5' s6' μ', sForL (gN 4) L_law_1 (ms.map D.int) [s0, .fz (.own 0), s2, s3, s4, s5, s6, .no, .no, .no] μ = .nx [s0, .fz (.own 0), s2, s3, s4', s5', s6', .no, .no, .no] μ' ∧ CupOk μ'
  | [], s4, s5, s6, μ, _, hc => ⟨s4, s5, s6, μ, rfl, hc⟩
  | m :: ms, s4, s5, s6, μ, hm, hc => by
    obtain ⟨m0, m1⟩ := hm m (by simp)
    obtain ⟨t5, t6, μ1, e1, c1⟩ := loop_step (s0 := s0) (s2 := s2) (s3 := s3) (s5 := s5) (s6 := s6) m0 m1 hc
    obtain ⟨s4', s5', s6', μ', e, c⟩ := loop_all (s0 := s0) (s2 := s2) (s3 := s3) ms (.fz (.int m)) t5 t6 μ1 (fun x hx => hm x (List.mem_cons_of_mem _ hx)) c1
    refine ⟨s4', s5', s6', μ', ?_, c⟩
    rw [List.map_cons, forL_cons (ρ1 := [s0, .fz (.own 0), s2, s3, .fz (.int m), s5, s6, .no, .no, .no]) (ρ2 := [s0, .fz (.own 0), s2, s3, .fz (.int m), t5, t6, .no, .no, .no]) (μ2 := μ1) rfl e1, e]
theorem inv_fr {q : Rat} (hq : RateOk q) : fr q⁻¹ = .tup [.int ((q.den : Nat) : Int), .int q.num] := by
  obtain ⟨n0, _⟩ := rate_num hq
  unfold fr
  rw [Rat.num_inv, Rat.den_inv, if_neg (by omega), Int.sign_eq_one_of_pos n0, Int.one_mul]
  congr 3
  congr 1
  omega
theorem neg_fr (q : Rat) : fr (-q) = .tup [.int (0 - q.num), .int ((q.den : Nat) : Int)] := by
  unfold fr
  rw [Rat.neg_num, Rat.neg_den]
  congr 3
  omega
def lastPart : SD := (sSeq (sPar [7, 6] (mVal (xBin addD (xC (.int 1)) (xCall g__law_roll (lCons (xVar 1) (lCons (xC (.int 40)) lNil)))) (mVal (xCall g__law_rate (lCons (xVar 1) lNil)) mNil)))
    (sSeq (sAsg 5 (xBin addD (xBin mulT (xTup (lCons (xTup (lCons (xUn negD (xC (.int 1))) (lCons (xC (.int 1)) lNil))) lNil)) (xBin subD (xVar 7) (xC (.int 1)))) (xTup (lCons (xTup (lCons (xC (.int 0)) (lCons (xC (.int 1)) lNil))) lNil))))
    (sSeq (sAsg 8 (xCall g__law_least (lCons (xCall g__law_power (lCons (xBin subD (xIx (xVar 6) (xC (.int 1))) (xIx (xVar 6) (xC (.int 0)))) (lCons (xVar 7) lNil))) (lCons (xCall g__law_power (lCons (xIx (xVar 6) (xC (.int 1))) (lCons (xVar 7) lNil))) lNil))))
    (sSeq (sAsg 9 (xCall g__law_times (lCons (xCall g__law_plus (lCons (xTup (lCons (xC (.int 1)) (lCons (xC (.int 1)) lNil))) (lCons (xTup (lCons (xBin subD (xC (.int 0)) (xIx (xVar 8) (xC (.int 0)))) (lCons (xIx (xVar 8) (xC (.int 1))) lNil))) lNil))) (lCons (xTup (lCons (xIx (xVar 6) (xC (.int 1))) (lCons (xIx (xVar 6) (xC (.int 0))) lNil))) lNil))))
    (sRet (xCall (g__law_like 12) (lCons (xLst (lCons (xCall g_chance_down (lCons (xVar 5) (lCons (xVar 6) lNil))) (lCons (xCall g_mean_trials (lCons (xVar 5) (lCons (xVar 6) lNil))) (lCons (xCall g_begun_share (lCons (xVar 5) (lCons (xC (.int 1)) (lCons (xC (.int 1)) lNil)))) lNil)))) (lCons (xLst (lCons (xVar 8) (lCons (xVar 9) (lCons (xTup (lCons (xC (.int 1)) (lCons (xC (.int 1)) lNil))) lNil)))) lNil))))))))
theorem pow_divInt {a b : Int} (hb : 0 < b) (n : Nat) : Rat.divInt (a ^ n) (b ^ n) = (Rat.divInt a b) ^ n := by
  rw [Rat.divInt_eq_div, Rat.divInt_eq_div, FR.cast_pow, FR.cast_pow]
  have hy : (b : Rat) ≠ 0 := fun z => by
    have := Rat.intCast_inj.mp (z.trans Rat.intCast_zero.symm)
    omega
  generalize hq : (a : Rat) / (b : Rat) = q
  have hx : (a : Rat) = q * (b : Rat) := by grind
  rw [hx, FR.rat_mul_pow]
  have := FR.rat_pow_ne hy n
  generalize (b : Rat) ^ n = y at *
  grind
theorem last_part {s0 s2 s3 s4 s5 s6 : Sl} {μ : Store} (hc : CupOk μ) : ∃ μ', lastPart [s0, .fz (.own 0), s2, s3, s4, s5, s6, .no, .no, .no] μ = .rt (.bl true) μ' := by
  obtain ⟨v, μ1, e1, c1, v0, v1⟩ := roll_spec (many := 40) hc (by decide) (by decide)
  obtain ⟨m, rfl⟩ := Int.eq_ofNat_of_zero_le v0
  have ea : (1 : Int) + (m : Nat) = ((m + 1 : Nat) : Int) := by omega
  have hm : m ≤ 39 := by omega
  obtain ⟨q, μ2, e2, c2, hq⟩ := rate_spec c1
  have hG := gP_ok hm
  obtain ⟨n0, n1⟩ := rate_num hq
  have hden := hq.den
  have hdp := FR.den_pos q
  have es : ((m + 1 : Nat) : Int) - 1 = (m : Nat) := by omega
  have hmul := mul_flat (m := m) (by omega) (pairI (-1, 1))
  have hmul' : mulT (.tup [.tup [.int (-1), .int 1]]) (.int (m : Nat)) = some (.tup (List.replicate m (pairI (-1, 1)))) := hmul
  have hadd := addT_ok (xs := List.replicate m (pairI (-1, 1))) (ys := [pairI (0, 1)]) (by simp; omega)
  rw [← gP_D] at hadd
  have hadd' : addD (.tup (List.replicate m (pairI (-1, 1)))) (.tup [.tup [.int 0, .int 1]]) = some (planD (gP m)) := hadd
  -- down
  have p1 := lpow_spec (b := ((q.den : Nat) : Int) - q.num) (by omega) (n := m + 1) (by omega) μ2
  have p2 := lpow_spec (b := ((q.den : Nat) : Int)) (by omega) (n := m + 1) (by omega) μ2
  have z3 : FR.Sz 5 ((q.den : Nat) : Int) := by show (((q.den : Nat) : Int)).natAbs < 32; omega
  have z4 : FR.Sz 5 (((q.den : Nat) : Int) - q.num) := by show (((q.den : Nat) : Int) - q.num).natAbs < 32; omega
  have p3 := FR.pow_sz z3 (m + 1)
  have hbp : 0 < ((q.den : Nat) : Int) ^ (m + 1) := Int.pow_pos (by omega)
  have l1 := least_ok ((((q.den : Nat) : Int) - q.num) ^ (m + 1)) (((q.den : Nat) : Int) ^ (m + 1)) μ2 hbp (p3.mono (by omega))
  have hrest : Rat.divInt (((q.den : Nat) : Int) - q.num) ((q.den : Nat) : Int) = 1 - q := by
    have h := rest_fr q
    have h2 := FR.fr_divInt (a := ((q.den : Nat) : Int) - q.num) hdp
    have hg : Int.gcd q.num ((q.den : Nat) : Int) = 1 := by
      show Nat.gcd q.num.natAbs (((q.den : Nat) : Int)).natAbs = 1
      rw [Int.natAbs_natCast]
      exact q.reduced
    rw [Int.gcd_self_sub_left, hg] at h2
    refine FR.fr_inj (h2.trans ?_)
    rw [h]; simp
  rw [pow_divInt (by omega), hrest] at l1
  have hd0 : 0 ≤ (1 - q) ^ (m + 1) := Rat.pow_nonneg (by have := hq.lt; grind)
  have hS : SzR 4000 ((1 - q) ^ (m + 1)) := by
    have := part_sz hq hG false
    rw [gP_down hm] at this
    exact this
  generalize hd : (1 - q) ^ (m + 1) = d at *
  have hS' : SzR 4000 (-d) := ⟨by rw [Rat.neg_num]; exact hS.num.neg, by rw [Rat.neg_den]; exact hS.den⟩
  have s1 : SzR 4000 (1 : Rat) := ⟨FR.lt_pow (m := 1) (by decide) (by decide), FR.lt_pow (m := 1) (by decide) (by decide)⟩
  have l2 := plus_ok 1 (-d) μ2 s1 hS'
  have hsub : (1 : Rat) + -d = 1 - d := by grind
  rw [hsub, neg_fr, Int.zero_sub] at l2
  have hS2 : SzR 4000 (1 - d) := by
    have h1 := part_sz hq hG true
    have h2 := parts_one (q := q) hG
    rw [gP_down hm, hd] at h2
    have h3 : partQ q (gP m) true = 1 - d := by grind
    rw [h3] at h1
    exact h1
  have hSi : SzR 4000 q⁻¹ := by
    have h := inv_fr hq
    unfold fr at h
    simp at h
    refine ⟨?_, ?_⟩
    · rw [show q⁻¹.num = ((q.den : Nat) : Int) by rw [Rat.num_inv, Int.sign_eq_one_of_pos n0, Int.one_mul]]
      exact z3.mono (by decide)
    · rw [Rat.den_inv, if_neg (by omega)]
      exact FR.lt_pow (m := 5) (by show q.num.natAbs < 32; omega) (by decide)
  have l3 := times_spec hS2 hSi μ2
  rw [inv_fr hq] at l3
  -- told
  have u1 := down_spec hq hG μ2
  rw [gP_down hm, hd] at u1
  have u2 := mean_trials_spec hq hG μ2
  rw [gP_mean hq hm, hd] at u2
  obtain ⟨l, h, hk, hin, hbg⟩ := gP_first hm
  have u3 := begun_share_spec hG hk hin μ2
  rw [hbg] at u3
  have k := like_3 (fr d) (fr ((1 - d) * q⁻¹)) (fr 1) μ2 fun x hx => by
    simp only [List.mem_cons, List.not_mem_nil, or_false] at hx
    rcases hx with rfl | rfl | rfl
    · exact fr_11 _
    · exact fr_11 _
    · exact fr_11 _
  have h11 : (.tup [.int 1, .int 1] : D) = fr 1 := rfl
  have hone : Rat.divInt 1 1 = 1 := by decide +kernel
  rw [hone] at u3
  refine ⟨μ2, ?_⟩
  unfold lastPart
  generalize hK : ((m + 1 : Nat) : Int) = K at *
  simp only [ev_seq, ev_par, ev_mVal, ev_mNil, ev_bin, ev_C, ev_call, ev_lCons, ev_lNil, ev_var, slV_fz, ev_bind_ok, List.getElem?_cons_succ, List.getElem?_cons_zero, e1, e2, ev_st_ok, ev_addI, ev_ofO_some, seq_nx, ea, parE_cons, parE_nil, List.set_cons_succ, List.set_cons_zero, Bool.false_eq_true, if_false]
  simp [es, hmul', hadd', FR.ix0, FR.ix1, p1, p2, l1, h11, l2, l3, u1, u2, u3, k]
theorem law_true (ns : List Int) (hl : ns.length ≤ 63) : g_law [.scr ns] [] = .ok (.bl true) [] := by
  obtain ⟨a, b, e0, a0, b0⟩ := cup_spec ns hl []
  have c0 : CupOk [[a, b]] := ⟨a, b, rfl, a0, b0⟩
  unfold g_law F_law
  have hS : (.tup [.tup [.int (-1), .int 2], .tup [.int 0, .int 2], .tup [.int 1, .int 2]] : D) = planD some3 := rfl
  have t1 : (.lst [.tup [.int 1, .int 2], .tup [.int 20, .int 27], .tup [.tup [.int 2, .tup [.int 1, .int 2]], .tup [.int 3, .tup [.int 1, .int 2]]], .tup [.int 22, .int 9], .tup [.int 8, .int 27], .tup [.int 2, .int 5]] : D) = .lst toldL := rfl
  obtain ⟨v, μr, er, cr, v0, v1⟩ := roll_spec (many := 6) c0 (by decide) (by decide)
  obtain ⟨ms, hms, hsrc⟩ : ∃ ms : List Int, (∀ m, m ∈ ms → 0 < m ∧ m ≤ 40) ∧ iSeq (xBin addD (xTup (lCons (xC (.int 2)) (lCons (xC (.int 5)) (lCons (xC (.int 12)) (lCons (xC (.int 24)) lNil))))) (xIf (bVal (xBin eqD (xCall g__law_roll (lCons (xVar 1) (lCons (xC (.int 6)) lNil))) (xC (.int 0)))) (xTup (lCons (xC (.int 40)) lNil)) (xTup lNil))) [.fz (.scr ns), .fz (.own 0), .fz (planD some3), .fz (.lst toldL), .no, .no, .no, .no, .no, .no] [[a, b]] = .ok (ms.map D.int) μr := by
    have ad1 := addT_ok (xs := [.int 2, .int 5, .int 12, .int 24]) (ys := [.int 40]) (by decide)
    have ad2 := addT_ok (xs := [.int 2, .int 5, .int 12, .int 24]) (ys := []) (by decide)
    by_cases hv : v = 0
    · refine ⟨[2, 5, 12, 24, 40], by decide, ?_⟩
      simp [er, hv, ad1]
    · refine ⟨[2, 5, 12, 24], by decide, ?_⟩
      simp at ad2
      simp [er, hv, ad2]
  obtain ⟨s4, s5, s6, μ1, l1, c1⟩ := loop_all (s0 := .fz (.scr ns)) (s2 := .fz (planD some3)) (s3 := .fz (.lst toldL)) ms .no .no .no μr hms cr
  obtain ⟨μ3, l3⟩ := last_part (s0 := .fz (.scr ns)) (s2 := .fz (planD some3)) (s3 := .fz (.lst toldL)) (s4 := s4) (s5 := s5) (s6 := s6) c1
  rw [ev_body]
  rw [ev_seq]
  have hh : (sAsgF 1 (xCall g__law_cup (lCons (xVar 0) lNil))) (entry 10 [.scr ns]) [] = .nx [.fz (.scr ns), .ow (.lst [.int a, .int b]), .no, .no, .no, .no, .no, .no, .no, .no] [] := by
    simp [e0]
  rw [hh, seq_nx, ev_prom (a := a) (b := b) (μ' := μ3) rfl]
  · rfl
  · show _ = SRes.rt (.bl true) μ3
    have had := addL_ok (xs := [.tup [.int 1, .int 2], .tup [.int 20, .int 27], .tup [.tup [.int 2, .tup [.int 1, .int 2]], .tup [.int 3, .tup [.int 1, .int 2]]], .tup [.int 22, .int 9]]) (ys := [.tup [.int 8, .int 27], .tup [.int 2, .int 5]]) (by decide)
    have hlike := toldL_like [[a, b]]
    unfold lastPart at l3
    rw [ev_seq]
    have q1 : (sAsg 2 (xTup (lCons (xTup (lCons (xUn negD (xC (.int 1))) (lCons (xC (.int 2)) lNil))) (lCons (xTup (lCons (xC (.int 0)) (lCons (xC (.int 2)) lNil))) (lCons (xTup (lCons (xC (.int 1)) (lCons (xC (.int 2)) lNil))) lNil))))) ([Sl.fz (.scr ns), .ow (.lst [.int a, .int b]), .no, .no, .no, .no, .no, .no, .no, .no].set 1 (.fz (.own ([] : Store).length))) ([] ++ [[a, b]]) = .nx [.fz (.scr ns), .fz (.own 0), .fz (planD some3), .no, .no, .no, .no, .no, .no, .no] [[a, b]] := by
      simp [hS]
    rw [q1, seq_nx, ev_seq]
    simp only [ev_asg, ev_lst, ev_lCons, ev_lNil, ev_call, ev_var, ev_tup, ev_C, ev_bind_ok, List.getElem?_cons_succ, List.getElem?_cons_zero, slV_fz, ev_lenOk, List.length_cons, List.length_nil, Nat.ble, if_true, told_u, told_d', told_t, told_m, ev_st_ok, List.set_cons_succ, List.set_cons_zero, seq_nx]
    rw [ev_seq]
    simp only [ev_asg, ev_bin, ev_lst, ev_lCons, ev_lNil, ev_call, ev_var, ev_tup, ev_C, ev_bind_ok, List.getElem?_cons_succ, List.getElem?_cons_zero, slV_fz, ev_lenOk, List.length_cons, List.length_nil, Nat.ble, if_true, told_e', told_s, had, ev_ofO_some, ev_st_ok, List.set_cons_succ, List.set_cons_zero, seq_nx]
    have hexp : ∀ ρ : DC.Env, ρ[3]? = some (.fz (.lst toldL)) → (bNot (bVal (xCall (g__law_like 12) (lCons (xVar 3) (lCons (xLst (lCons (xTup (lCons (xC (.int 1)) (lCons (xC (.int 2)) lNil))) (lCons (xTup (lCons (xC (.int 20)) (lCons (xC (.int 27)) lNil))) (lCons (xTup (lCons (xTup (lCons (xC (.int 2)) (lCons (xTup (lCons (xC (.int 1)) (lCons (xC (.int 2)) lNil))) lNil))) (lCons (xTup (lCons (xC (.int 3)) (lCons (xTup (lCons (xC (.int 1)) (lCons (xC (.int 2)) lNil))) lNil))) lNil))) (lCons (xTup (lCons (xC (.int 22)) (lCons (xC (.int 9)) lNil))) (lCons (xTup (lCons (xC (.int 8)) (lCons (xC (.int 27)) lNil))) (lCons (xTup (lCons (xC (.int 2)) (lCons (xC (.int 5)) lNil))) lNil))))))) lNil))))) ρ [[a, b]] = .ok false [[a, b]] := by
      intro ρ hρ
      simp [hρ, t1, hlike]
    rw [ev_seq, ev_sIf]
    rw [show (.lst ([.tup [.int 1, .int 2], .tup [.int 20, .int 27], .tup [.tup [.int 2, .tup [.int 1, .int 2]], .tup [.int 3, .tup [.int 1, .int 2]]], .tup [.int 22, .int 9]] ++ [.tup [.int 8, .int 27], .tup [.int 2, .int 5]]) : D) = .lst toldL from rfl]
    rw [hexp _ rfl]
    simp only [ev_st_ok, Bool.false_eq_true, if_false, ev_next, seq_nx]
    rw [ev_seq, ev_for, hsrc]
    simp only [ev_st_ok, l1, seq_nx]
    exact l3
end K77
set_option Elab.async false
set_option linter.all false
set_option maxRecDepth 100000
set_option maxHeartbeats 4000000
namespace K77
open PySem PySem.Spec PyProof.Rows L2 DC
def spLaw (K : PySem.W.Frag) : Sp := fun vs H Q _ => ∃ (a : Addr) (ns : List Int), vs = [.ref a] ∧ SqL K H a (ns.map V.int) ∧ ns.length ≤ 63 ∧ ∀ H', Q (.bl true) H'
theorem law_sp {K : PySem.W.Frag} {cl : Nat → Addr} (vs : List V) (H : Hp) (Q : VK) (E : XK) (h : spLaw K vs H Q E) : SpD K cl 1 g_law vs H Q E := by
  obtain ⟨a, ns, rfl, hS, hl, q⟩ := h
  have nv : vw ⟨fun _ => False, [], H⟩ [] H = H := by
    funext b
    unfold vw
    rw [if_neg]
    rintro (z | z | z)
    · exact z
    · cases z
    · cases z
  refine ⟨fun _ => False, [], [], [.scr ns], ⟨rfl, rfl, fun i o s x h => (by simp at h), fun i j a h => (by simp at h), fun a h => (by cases h), fun a h => (by cases h), List.nodup_nil, rfl, fun n a ns h => (by simp at h), fun b o h _ => h, fun b h => h.elim⟩, .cons (.scr (by rw [nv]; exact hS)) .nil, rfl, ?_⟩
  rw [law_true ns hl]
  intro v H' r p
  rw [p.inv_bl]
  exact q H'
theorem all_mk {l : PySem.W.OpenLaw} {w : World} {K : PySem.W.Frag} {h : Heap} {mg : Str → Option Value} {fa : Addr} {f0 f1 f2 f3 f4 f5 f6 f7 f8 f9 f10 f11 f12 f13 f14 f15 f16 f17 f18 f19 f20 f21 f22 f23 f24 f25 f26 f27 f28 f29 f30 f31 f32 f33 f34 f35 f36 f37 f38 f39 f40 f41 f42 f43 f44 f45 f46 f47 f48 f49 f50 f51 f52 f53 f54 f55 f56 : Addr} (X : K.In h) (G : h.Ns mainGlobals mg) (hfa : mg "law" = some (.ref fa))
    {od0 an0 od1 an1 od2 an2 od3 an3 od4 an4 od5 an5 od6 an6 od7 an7 od8 an8 od9 an9 od10 an10 od11 an11 od12 an12 od13 an13 od14 an14 od15 an15 od16 an16 od17 an17 od18 an18 od19 an19 od20 an20 od21 an21 od22 an22 od23 an23 od24 an24 od25 an25 od26 an26 od27 an27 od28 an28 od29 an29 od30 an30 od31 an31 od32 an32 od33 an33 od34 an34 od35 an35 od36 an36 od37 an37 od38 an38 od39 an39 od40 an40 od41 an41 od42 an42 od43 an43 od44 an44 od45 an45 od46 an46 od47 an47 od48 an48 od49 an49 od50 an50 od51 an51 od52 an52 od53 an53 od54 an54 od55 an55 od56 an56 : Option Addr} {sl0 sl1 sl2 sl3 sl4 sl5 sl6 sl7 sl8 sl9 sl10 sl11 sl12 sl13 sl14 sl15 sl16 sl17 sl18 sl19 sl20 sl21 sl22 sl23 sl24 sl25 sl26 sl27 sl28 sl29 sl30 sl31 sl32 sl33 sl34 sl35 sl36 sl37 sl38 sl39 sl40 sl41 sl42 sl43 sl44 sl45 sl46 sl47 sl48 sl49 sl50 sl51 sl52 sl53 sl54 sl55 sl56 : Array (Option Value)} {oc0 kV0 dc0 pm0 cd0 ct0 oc1 kV1 dc1 pm1 cd1 ct1 oc2 kV2 dc2 pm2 cd2 ct2 oc3 kV3 dc3 pm3 cd3 ct3 oc4 kV4 dc4 pm4 cd4 ct4 oc5 kV5 dc5 pm5 cd5 ct5 oc6 kV6 dc6 pm6 cd6 ct6 oc7 kV7 dc7 pm7 cd7 ct7 oc8 kV8 dc8 pm8 cd8 ct8 oc9 kV9 dc9 pm9 cd9 ct9 oc10 kV10 dc10 pm10 cd10 ct10 oc11 kV11 dc11 pm11 cd11 ct11 oc12 kV12 dc12 pm12 cd12 ct12 oc13 kV13 dc13 pm13 cd13 ct13 oc14 kV14 dc14 pm14 cd14 ct14 oc15 kV15 dc15 pm15 cd15 ct15 oc16 kV16 dc16 pm16 cd16 ct16 oc17 kV17 dc17 pm17 cd17 ct17 oc18 kV18 dc18 pm18 cd18 ct18 oc19 kV19 dc19 pm19 cd19 ct19 oc20 kV20 dc20 pm20 cd20 ct20 oc21 kV21 dc21 pm21 cd21 ct21 oc22 kV22 dc22 pm22 cd22 ct22 oc23 kV23 dc23 pm23 cd23 ct23 oc24 kV24 dc24 pm24 cd24 ct24 oc25 kV25 dc25 pm25 cd25 ct25 oc26 kV26 dc26 pm26 cd26 ct26 oc27 kV27 dc27 pm27 cd27 ct27 oc28 kV28 dc28 pm28 cd28 ct28 oc29 kV29 dc29 pm29 cd29 ct29 oc30 kV30 dc30 pm30 cd30 ct30 oc31 kV31 dc31 pm31 cd31 ct31 oc32 kV32 dc32 pm32 cd32 ct32 oc33 kV33 dc33 pm33 cd33 ct33 oc34 kV34 dc34 pm34 cd34 ct34 oc35 kV35 dc35 pm35 cd35 ct35 oc36 kV36 dc36 pm36 cd36 ct36 oc37 kV37 dc37 pm37 cd37 ct37 oc38 kV38 dc38 pm38 cd38 ct38 oc39 kV39 dc39 pm39 cd39 ct39 oc40 kV40 dc40 pm40 cd40 ct40 oc41 kV41 dc41 pm41 cd41 ct41 oc42 kV42 dc42 pm42 cd42 ct42 oc43 kV43 dc43 pm43 cd43 ct43 oc44 kV44 dc44 pm44 cd44 ct44 oc45 kV45 dc45 pm45 cd45 ct45 oc46 kV46 dc46 pm46 cd46 ct46 oc47 kV47 dc47 pm47 cd47 ct47 oc48 kV48 dc48 pm48 cd48 ct48 oc49 kV49 dc49 pm49 cd49 ct49 oc50 kV50 dc50 pm50 cd50 ct50 oc51 kV51 dc51 pm51 cd51 ct51 oc52 kV52 dc52 pm52 cd52 ct52 oc53 kV53 dc53 pm53 cd53 ct53 oc54 kV54 dc54 pm54 cd54 ct54 oc55 kV55 dc55 pm55 cd55 ct55 oc56 kV56 dc56 pm56 cd56 ct56 : Value} {t0 t1 t2 t3 t4 t5 u5 t6 u6 t7 t8 : Tok}{q5 : Addr} {qd5 : Option Addr} {qn5 : Nat} {qs5 : Array (Option Value)} {q6 : Addr} {qd6 : Option Addr} {qn6 : Nat} {qs6 : Array (Option Value)}
    (a0 : PySem.W.nsIn K mainGlobals "_law_cup" = some (some (.ref f0))) (l0 : K.lookup f0 = some ⟨oc0, od0, .func (PySem.W.fnOf "_law_cup" "_law_cup" (defArgs st__law_cup) (defBody st__law_cup) (defScope st__law_cup) .none kV0 dc0 pm0 an0 cd0 ct0), sl0⟩) (c0 : PySem.W.codeIn K cd0 "_law_cup" = true) (k0 : PySem.W.keepIn K (.ref f0) = true)
    (a1 : PySem.W.nsIn K mainGlobals "_law_divisor" = some (some (.ref f1))) (l1 : K.lookup f1 = some ⟨oc1, od1, .func (PySem.W.fnOf "_law_divisor" "_law_divisor" (defArgs st__law_divisor) (defBody st__law_divisor) (defScope st__law_divisor) .none kV1 dc1 pm1 an1 cd1 ct1), sl1⟩) (c1 : PySem.W.codeIn K cd1 "_law_divisor" = true) (k1 : PySem.W.keepIn K (.ref f1) = true)
    (a2 : PySem.W.nsIn K mainGlobals "_law_least" = some (some (.ref f2))) (l2 : K.lookup f2 = some ⟨oc2, od2, .func (PySem.W.fnOf "_law_least" "_law_least" (defArgs st__law_least) (defBody st__law_least) (defScope st__law_least) .none kV2 dc2 pm2 an2 cd2 ct2), sl2⟩) (c2 : PySem.W.codeIn K cd2 "_law_least" = true) (k2 : PySem.W.keepIn K (.ref f2) = true)
    (a3 : PySem.W.nsIn K mainGlobals "_law_times" = some (some (.ref f3))) (l3 : K.lookup f3 = some ⟨oc3, od3, .func (PySem.W.fnOf "_law_times" "_law_times" (defArgs st__law_times) (defBody st__law_times) (defScope st__law_times) .none kV3 dc3 pm3 an3 cd3 ct3), sl3⟩) (c3 : PySem.W.codeIn K cd3 "_law_times" = true) (k3 : PySem.W.keepIn K (.ref f3) = true)
    (a4 : PySem.W.nsIn K mainGlobals "_law_sort" = some (some (.ref f4))) (l4 : K.lookup f4 = some ⟨oc4, od4, .func (PySem.W.fnOf "_law_sort" "_law_sort" (defArgs st__law_sort) (defBody st__law_sort) (defScope st__law_sort) .none kV4 dc4 pm4 an4 cd4 ct4), sl4⟩) (c4 : PySem.W.codeIn K cd4 "_law_sort" = true) (k4 : PySem.W.keepIn K (.ref f4) = true)
    (a5 : PySem.W.nsIn K mainGlobals "_law_like" = some (some (.ref f5))) (l5 : K.lookup f5 = some ⟨oc5, od5, .func (PySem.W.fnOf "_law_like" "_law_like" (defArgs st__law_like) (defBody st__law_like) (defScope st__law_like) .none kV5 dc5 pm5 an5 cd5 ct5), sl5⟩) (c5 : PySem.W.codeIn K cd5 "_law_like" = true) (k5 : PySem.W.keepIn K (.ref f5) = true)
    (a6 : PySem.W.nsIn K mainGlobals "is_tuple_of" = some (some (.ref f6))) (l6 : K.lookup f6 = some ⟨oc6, od6, .func (PySem.W.fnOf "is_tuple_of" "is_tuple_of" (defArgs st_is_tuple_of) (defBody st_is_tuple_of) (defScope st_is_tuple_of) .none kV6 dc6 pm6 an6 cd6 ct6), sl6⟩) (c6 : PySem.W.codeIn K cd6 "is_tuple_of" = true) (k6 : PySem.W.keepIn K (.ref f6) = true)
    (a7 : PySem.W.nsIn K mainGlobals "is_integer" = some (some (.ref f7))) (l7 : K.lookup f7 = some ⟨oc7, od7, .func (PySem.W.fnOf "is_integer" "is_integer" (defArgs st_is_integer) (defBody st_is_integer) (defScope st_is_integer) .none kV7 dc7 pm7 an7 cd7 ct7), sl7⟩) (c7 : PySem.W.codeIn K cd7 "is_integer" = true) (k7 : PySem.W.keepIn K (.ref f7) = true)
    (a8 : PySem.W.nsIn K mainGlobals "is_whole" = some (some (.ref f8))) (l8 : K.lookup f8 = some ⟨oc8, od8, .func (PySem.W.fnOf "is_whole" "is_whole" (defArgs st_is_whole) (defBody st_is_whole) (defScope st_is_whole) .none kV8 dc8 pm8 an8 cd8 ct8), sl8⟩) (c8 : PySem.W.codeIn K cd8 "is_whole" = true) (k8 : PySem.W.keepIn K (.ref f8) = true)
    (a9 : PySem.W.nsIn K mainGlobals "fits_bounds" = some (some (.ref f9))) (l9 : K.lookup f9 = some ⟨oc9, od9, .func (PySem.W.fnOf "fits_bounds" "fits_bounds" (defArgs st_fits_bounds) (defBody st_fits_bounds) (defScope st_fits_bounds) .none kV9 dc9 pm9 an9 cd9 ct9), sl9⟩) (c9 : PySem.W.codeIn K cd9 "fits_bounds" = true) (k9 : PySem.W.keepIn K (.ref f9) = true)
    (a10 : PySem.W.nsIn K mainGlobals "fits_end_plan" = some (some (.ref f10))) (l10 : K.lookup f10 = some ⟨oc10, od10, .func (PySem.W.fnOf "fits_end_plan" "fits_end_plan" (defArgs st_fits_end_plan) (defBody st_fits_end_plan) (defScope st_fits_end_plan) .none kV10 dc10 pm10 an10 cd10 ct10), sl10⟩) (c10 : PySem.W.codeIn K cd10 "fits_end_plan" = true) (k10 : PySem.W.keepIn K (.ref f10) = true)
    (a11 : PySem.W.nsIn K mainGlobals "need_end_plan" = some (some (.ref f11))) (l11 : K.lookup f11 = some ⟨oc11, od11, .func (PySem.W.fnOf "need_end_plan" "need_end_plan" (defArgs st_need_end_plan) (defBody st_need_end_plan) (defScope st_need_end_plan) .none kV11 dc11 pm11 an11 cd11 ct11), sl11⟩) (c11 : PySem.W.codeIn K cd11 "need_end_plan" = true) (k11 : PySem.W.keepIn K (.ref f11) = true)
    (a12 : PySem.W.nsIn K mainGlobals "divisor_of" = some (some (.ref f12))) (l12 : K.lookup f12 = some ⟨oc12, od12, .func (PySem.W.fnOf "divisor_of" "divisor_of" (defArgs st_divisor_of) (defBody st_divisor_of) (defScope st_divisor_of) .none kV12 dc12 pm12 an12 cd12 ct12), sl12⟩) (c12 : PySem.W.codeIn K cd12 "divisor_of" = true) (k12 : PySem.W.keepIn K (.ref f12) = true)
    (a13 : PySem.W.nsIn K mainGlobals "fits_fraction" = some (some (.ref f13))) (l13 : K.lookup f13 = some ⟨oc13, od13, .func (PySem.W.fnOf "fits_fraction" "fits_fraction" (defArgs st_fits_fraction) (defBody st_fits_fraction) (defScope st_fits_fraction) .none kV13 dc13 pm13 an13 cd13 ct13), sl13⟩) (c13 : PySem.W.codeIn K cd13 "fits_fraction" = true) (k13 : PySem.W.keepIn K (.ref f13) = true)
    (a14 : PySem.W.nsIn K mainGlobals "fits_chance" = some (some (.ref f14))) (l14 : K.lookup f14 = some ⟨oc14, od14, .func (PySem.W.fnOf "fits_chance" "fits_chance" (defArgs st_fits_chance) (defBody st_fits_chance) (defScope st_fits_chance) .none kV14 dc14 pm14 an14 cd14 ct14), sl14⟩) (c14 : PySem.W.codeIn K cd14 "fits_chance" = true) (k14 : PySem.W.keepIn K (.ref f14) = true)
    (a15 : PySem.W.nsIn K mainGlobals "need_up_rate" = some (some (.ref f15))) (l15 : K.lookup f15 = some ⟨oc15, od15, .func (PySem.W.fnOf "need_up_rate" "need_up_rate" (defArgs st_need_up_rate) (defBody st_need_up_rate) (defScope st_need_up_rate) .none kV15 dc15 pm15 an15 cd15 ct15), sl15⟩) (c15 : PySem.W.codeIn K cd15 "need_up_rate" = true) (k15 : PySem.W.keepIn K (.ref f15) = true)
    (a16 : PySem.W.nsIn K mainGlobals "need_plan_at" = some (some (.ref f16))) (l16 : K.lookup f16 = some ⟨oc16, od16, .func (PySem.W.fnOf "need_plan_at" "need_plan_at" (defArgs st_need_plan_at) (defBody st_need_plan_at) (defScope st_need_plan_at) .none kV16 dc16 pm16 an16 cd16 ct16), sl16⟩) (c16 : PySem.W.codeIn K cd16 "need_plan_at" = true) (k16 : PySem.W.keepIn K (.ref f16) = true)
    (a17 : PySem.W.nsIn K mainGlobals "lowest" = some (some (.ref f17))) (l17 : K.lookup f17 = some ⟨oc17, od17, .func (PySem.W.fnOf "lowest" "lowest" (defArgs st_lowest) (defBody st_lowest) (defScope st_lowest) .none kV17 dc17 pm17 an17 cd17 ct17), sl17⟩) (c17 : PySem.W.codeIn K cd17 "lowest" = true) (k17 : PySem.W.keepIn K (.ref f17) = true)
    (a18 : PySem.W.nsIn K mainGlobals "many_times" = some (some (.ref f18))) (l18 : K.lookup f18 = some ⟨oc18, od18, .func (PySem.W.fnOf "many_times" "many_times" (defArgs st_many_times) (defBody st_many_times) (defScope st_many_times) .none kV18 dc18 pm18 an18 cd18 ct18), sl18⟩) (c18 : PySem.W.codeIn K cd18 "many_times" = true) (k18 : PySem.W.keepIn K (.ref f18) = true)
    (a19 : PySem.W.nsIn K mainGlobals "point_chance" = some (some (.ref f19))) (l19 : K.lookup f19 = some ⟨oc19, od19, .func (PySem.W.fnOf "point_chance" "point_chance" (defArgs st_point_chance) (defBody st_point_chance) (defScope st_point_chance) .none kV19 dc19 pm19 an19 cd19 ct19), sl19⟩) (c19 : PySem.W.codeIn K cd19 "point_chance" = true) (k19 : PySem.W.keepIn K (.ref f19) = true)
    (a20 : PySem.W.nsIn K mainGlobals "layers_of_plan" = some (some (.ref f20))) (l20 : K.lookup f20 = some ⟨oc20, od20, .func (PySem.W.fnOf "layers_of_plan" "layers_of_plan" (defArgs st_layers_of_plan) (defBody st_layers_of_plan) (defScope st_layers_of_plan) .none kV20 dc20 pm20 an20 cd20 ct20), sl20⟩) (c20 : PySem.W.codeIn K cd20 "layers_of_plan" = true) (k20 : PySem.W.keepIn K (.ref f20) = true)
    (a21 : PySem.W.nsIn K mainGlobals "points_in_plan" = some (some (.ref f21))) (l21 : K.lookup f21 = some ⟨oc21, od21, .func (PySem.W.fnOf "points_in_plan" "points_in_plan" (defArgs st_points_in_plan) (defBody st_points_in_plan) (defScope st_points_in_plan) .none kV21 dc21 pm21 an21 cd21 ct21), sl21⟩) (c21 : PySem.W.codeIn K cd21 "points_in_plan" = true) (k21 : PySem.W.keepIn K (.ref f21) = true)
    (a22 : PySem.W.nsIn K mainGlobals "chances_of_points" = some (some (.ref f22))) (l22 : K.lookup f22 = some ⟨oc22, od22, .func (PySem.W.fnOf "chances_of_points" "chances_of_points" (defArgs st_chances_of_points) (defBody st_chances_of_points) (defScope st_chances_of_points) .none kV22 dc22 pm22 an22 cd22 ct22), sl22⟩) (c22 : PySem.W.codeIn K cd22 "chances_of_points" = true) (k22 : PySem.W.keepIn K (.ref f22) = true)
    (a23 : PySem.W.nsIn K mainGlobals "sum_in" = some (some (.ref f23))) (l23 : K.lookup f23 = some ⟨oc23, od23, .func (PySem.W.fnOf "sum_in" "sum_in" (defArgs st_sum_in) (defBody st_sum_in) (defScope st_sum_in) .none kV23 dc23 pm23 an23 cd23 ct23), sl23⟩) (c23 : PySem.W.codeIn K cd23 "sum_in" = true) (k23 : PySem.W.keepIn K (.ref f23) = true)
    (a24 : PySem.W.nsIn K mainGlobals "sum_over" = some (some (.ref f24))) (l24 : K.lookup f24 = some ⟨oc24, od24, .func (PySem.W.fnOf "sum_over" "sum_over" (defArgs st_sum_over) (defBody st_sum_over) (defScope st_sum_over) .none kV24 dc24 pm24 an24 cd24 ct24), sl24⟩) (c24 : PySem.W.codeIn K cd24 "sum_over" = true) (k24 : PySem.W.keepIn K (.ref f24) = true)
    (a25 : PySem.W.nsIn K mainGlobals "part_up" = some (some (.ref f25))) (l25 : K.lookup f25 = some ⟨oc25, od25, .func (PySem.W.fnOf "part_up" "part_up" (defArgs st_part_up) (defBody st_part_up) (defScope st_part_up) .none kV25 dc25 pm25 an25 cd25 ct25), sl25⟩) (c25 : PySem.W.codeIn K cd25 "part_up" = true) (k25 : PySem.W.keepIn K (.ref f25) = true)
    (a26 : PySem.W.nsIn K mainGlobals "chance_up" = some (some (.ref f26))) (l26 : K.lookup f26 = some ⟨oc26, od26, .func (PySem.W.fnOf "chance_up" "chance_up" (defArgs st_chance_up) (defBody st_chance_up) (defScope st_chance_up) .none kV26 dc26 pm26 an26 cd26 ct26), sl26⟩) (c26 : PySem.W.codeIn K cd26 "chance_up" = true) (k26 : PySem.W.keepIn K (.ref f26) = true)
    (a27 : PySem.W.nsIn K mainGlobals "chance_down" = some (some (.ref f27))) (l27 : K.lookup f27 = some ⟨oc27, od27, .func (PySem.W.fnOf "chance_down" "chance_down" (defArgs st_chance_down) (defBody st_chance_down) (defScope st_chance_down) .none kV27 dc27 pm27 an27 cd27 ct27), sl27⟩) (c27 : PySem.W.codeIn K cd27 "chance_down" = true) (k27 : PySem.W.keepIn K (.ref f27) = true)
    (a28 : PySem.W.nsIn K mainGlobals "trials_in" = some (some (.ref f28))) (l28 : K.lookup f28 = some ⟨oc28, od28, .func (PySem.W.fnOf "trials_in" "trials_in" (defArgs st_trials_in) (defBody st_trials_in) (defScope st_trials_in) .none kV28 dc28 pm28 an28 cd28 ct28), sl28⟩) (c28 : PySem.W.codeIn K cd28 "trials_in" = true) (k28 : PySem.W.keepIn K (.ref f28) = true)
    (a29 : PySem.W.nsIn K mainGlobals "trial_chances" = some (some (.ref f29))) (l29 : K.lookup f29 = some ⟨oc29, od29, .func (PySem.W.fnOf "trial_chances" "trial_chances" (defArgs st_trial_chances) (defBody st_trial_chances) (defScope st_trial_chances) .none kV29 dc29 pm29 an29 cd29 ct29), sl29⟩) (c29 : PySem.W.codeIn K cd29 "trial_chances" = true) (k29 : PySem.W.keepIn K (.ref f29) = true)
    (a30 : PySem.W.nsIn K mainGlobals "mean_in" = some (some (.ref f30))) (l30 : K.lookup f30 = some ⟨oc30, od30, .func (PySem.W.fnOf "mean_in" "mean_in" (defArgs st_mean_in) (defBody st_mean_in) (defScope st_mean_in) .none kV30 dc30 pm30 an30 cd30 ct30), sl30⟩) (c30 : PySem.W.codeIn K cd30 "mean_in" = true) (k30 : PySem.W.keepIn K (.ref f30) = true)
    (a31 : PySem.W.nsIn K mainGlobals "mean_trials" = some (some (.ref f31))) (l31 : K.lookup f31 = some ⟨oc31, od31, .func (PySem.W.fnOf "mean_trials" "mean_trials" (defArgs st_mean_trials) (defBody st_mean_trials) (defScope st_mean_trials) .none kV31 dc31 pm31 an31 cd31 ct31), sl31⟩) (c31 : PySem.W.codeIn K cd31 "mean_trials" = true) (k31 : PySem.W.keepIn K (.ref f31) = true)
    (a32 : PySem.W.nsIn K mainGlobals "_law_roll" = some (some (.ref f32))) (l32 : K.lookup f32 = some ⟨oc32, od32, .func (PySem.W.fnOf "_law_roll" "_law_roll" (defArgs st__law_roll) (defBody st__law_roll) (defScope st__law_roll) .none kV32 dc32 pm32 an32 cd32 ct32), sl32⟩) (c32 : PySem.W.codeIn K cd32 "_law_roll" = true) (k32 : PySem.W.keepIn K (.ref f32) = true)
    (a33 : PySem.W.nsIn K mainGlobals "_law_rate" = some (some (.ref f33))) (l33 : K.lookup f33 = some ⟨oc33, od33, .func (PySem.W.fnOf "_law_rate" "_law_rate" (defArgs st__law_rate) (defBody st__law_rate) (defScope st__law_rate) .none kV33 dc33 pm33 an33 cd33 ct33), sl33⟩) (c33 : PySem.W.codeIn K cd33 "_law_rate" = true) (k33 : PySem.W.keepIn K (.ref f33) = true)
    (a34 : PySem.W.nsIn K mainGlobals "_law_power" = some (some (.ref f34))) (l34 : K.lookup f34 = some ⟨oc34, od34, .func (PySem.W.fnOf "_law_power" "_law_power" (defArgs st__law_power) (defBody st__law_power) (defScope st__law_power) .none kV34 dc34 pm34 an34 cd34 ct34), sl34⟩) (c34 : PySem.W.codeIn K cd34 "_law_power" = true) (k34 : PySem.W.keepIn K (.ref f34) = true)
    (a35 : PySem.W.nsIn K mainGlobals "_law_plus" = some (some (.ref f35))) (l35 : K.lookup f35 = some ⟨oc35, od35, .func (PySem.W.fnOf "_law_plus" "_law_plus" (defArgs st__law_plus) (defBody st__law_plus) (defScope st__law_plus) .none kV35 dc35 pm35 an35 cd35 ct35), sl35⟩) (c35 : PySem.W.codeIn K cd35 "_law_plus" = true) (k35 : PySem.W.keepIn K (.ref f35) = true)
    (a36 : PySem.W.nsIn K mainGlobals "ways_at" = some (some (.ref f36))) (l36 : K.lookup f36 = some ⟨oc36, od36, .func (PySem.W.fnOf "ways_at" "ways_at" (defArgs st_ways_at) (defBody st_ways_at) (defScope st_ways_at) .none kV36 dc36 pm36 an36 cd36 ct36), sl36⟩) (c36 : PySem.W.codeIn K cd36 "ways_at" = true) (k36 : PySem.W.keepIn K (.ref f36) = true)
    (a37 : PySem.W.nsIn K mainGlobals "need_end_point" = some (some (.ref f37))) (l37 : K.lookup f37 = some ⟨oc37, od37, .func (PySem.W.fnOf "need_end_point" "need_end_point" (defArgs st_need_end_point) (defBody st_need_end_point) (defScope st_need_end_point) .none kV37 dc37 pm37 an37 cd37 ct37), sl37⟩) (c37 : PySem.W.codeIn K cd37 "need_end_point" = true) (k37 : PySem.W.keepIn K (.ref f37) = true)
    (a38 : PySem.W.nsIn K mainGlobals "end_chance" = some (some (.ref f38))) (l38 : K.lookup f38 = some ⟨oc38, od38, .func (PySem.W.fnOf "end_chance" "end_chance" (defArgs st_end_chance) (defBody st_end_chance) (defScope st_end_chance) .none kV38 dc38 pm38 an38 cd38 ct38), sl38⟩) (c38 : PySem.W.codeIn K cd38 "end_chance" = true) (k38 : PySem.W.keepIn K (.ref f38) = true)
    (a39 : PySem.W.nsIn K mainGlobals "product_in" = some (some (.ref f39))) (l39 : K.lookup f39 = some ⟨oc39, od39, .func (PySem.W.fnOf "product_in" "product_in" (defArgs st_product_in) (defBody st_product_in) (defScope st_product_in) .none kV39 dc39 pm39 an39 cd39 ct39), sl39⟩) (c39 : PySem.W.codeIn K cd39 "product_in" = true) (k39 : PySem.W.keepIn K (.ref f39) = true)
    (a40 : PySem.W.nsIn K mainGlobals "share_begun" = some (some (.ref f40))) (l40 : K.lookup f40 = some ⟨oc40, od40, .func (PySem.W.fnOf "share_begun" "share_begun" (defArgs st_share_begun) (defBody st_share_begun) (defScope st_share_begun) .none kV40 dc40 pm40 an40 cd40 ct40), sl40⟩) (c40 : PySem.W.codeIn K cd40 "share_begun" = true) (k40 : PySem.W.keepIn K (.ref f40) = true)
    (a41 : PySem.W.nsIn K mainGlobals "share_mean" = some (some (.ref f41))) (l41 : K.lookup f41 = some ⟨oc41, od41, .func (PySem.W.fnOf "share_mean" "share_mean" (defArgs st_share_mean) (defBody st_share_mean) (defScope st_share_mean) .none kV41 dc41 pm41 an41 cd41 ct41), sl41⟩) (c41 : PySem.W.codeIn K cd41 "share_mean" = true) (k41 : PySem.W.keepIn K (.ref f41) = true)
    (a42 : PySem.W.nsIn K mainGlobals "_law_plan" = some (some (.ref f42))) (l42 : K.lookup f42 = some ⟨oc42, od42, .func (PySem.W.fnOf "_law_plan" "_law_plan" (defArgs st__law_plan) (defBody st__law_plan) (defScope st__law_plan) .none kV42 dc42 pm42 an42 cd42 ct42), sl42⟩) (c42 : PySem.W.codeIn K cd42 "_law_plan" = true) (k42 : PySem.W.keepIn K (.ref f42) = true)
    (a43 : PySem.W.nsIn K mainGlobals "begun_share" = some (some (.ref f43))) (l43 : K.lookup f43 = some ⟨oc43, od43, .func (PySem.W.fnOf "begun_share" "begun_share" (defArgs st_begun_share) (defBody st_begun_share) (defScope st_begun_share) .none kV43 dc43 pm43 an43 cd43 ct43), sl43⟩) (c43 : PySem.W.codeIn K cd43 "begun_share" = true) (k43 : PySem.W.keepIn K (.ref f43) = true)
    (a44 : PySem.W.nsIn K mainGlobals "_law_sum" = some (some (.ref f44))) (l44 : K.lookup f44 = some ⟨oc44, od44, .func (PySem.W.fnOf "_law_sum" "_law_sum" (defArgs st__law_sum) (defBody st__law_sum) (defScope st__law_sum) .none kV44 dc44 pm44 an44 cd44 ct44), sl44⟩) (c44 : PySem.W.codeIn K cd44 "_law_sum" = true) (k44 : PySem.W.keepIn K (.ref f44) = true)
    (a45 : PySem.W.nsIn K mainGlobals "_law_some" = some (some (.ref f45))) (l45 : K.lookup f45 = some ⟨oc45, od45, .func (PySem.W.fnOf "_law_some" "_law_some" (defArgs st__law_some) (defBody st__law_some) (defScope st__law_some) .none kV45 dc45 pm45 an45 cd45 ct45), sl45⟩) (c45 : PySem.W.codeIn K cd45 "_law_some" = true) (k45 : PySem.W.keepIn K (.ref f45) = true)
    (a46 : PySem.W.nsIn K mainGlobals "_law_chance" = some (some (.ref f46))) (l46 : K.lookup f46 = some ⟨oc46, od46, .func (PySem.W.fnOf "_law_chance" "_law_chance" (defArgs st__law_chance) (defBody st__law_chance) (defScope st__law_chance) .none kV46 dc46 pm46 an46 cd46 ct46), sl46⟩) (c46 : PySem.W.codeIn K cd46 "_law_chance" = true) (k46 : PySem.W.keepIn K (.ref f46) = true)
    (a47 : PySem.W.nsIn K mainGlobals "_law_points" = some (some (.ref f47))) (l47 : K.lookup f47 = some ⟨oc47, od47, .func (PySem.W.fnOf "_law_points" "_law_points" (defArgs st__law_points) (defBody st__law_points) (defScope st__law_points) .none kV47 dc47 pm47 an47 cd47 ct47), sl47⟩) (c47 : PySem.W.codeIn K cd47 "_law_points" = true) (k47 : PySem.W.keepIn K (.ref f47) = true)
    (a48 : PySem.W.nsIn K mainGlobals "is_rising" = some (some (.ref f48))) (l48 : K.lookup f48 = some ⟨oc48, od48, .func (PySem.W.fnOf "is_rising" "is_rising" (defArgs st_is_rising) (defBody st_is_rising) (defScope st_is_rising) .none kV48 dc48 pm48 an48 cd48 ct48), sl48⟩) (c48 : PySem.W.codeIn K cd48 "is_rising" = true) (k48 : PySem.W.keepIn K (.ref f48) = true)
    (a49 : PySem.W.nsIn K mainGlobals "is_share" = some (some (.ref f49))) (l49 : K.lookup f49 = some ⟨oc49, od49, .func (PySem.W.fnOf "is_share" "is_share" (defArgs st_is_share) (defBody st_is_share) (defScope st_is_share) .none kV49 dc49 pm49 an49 cd49 ct49), sl49⟩) (c49 : PySem.W.codeIn K cd49 "is_share" = true) (k49 : PySem.W.keepIn K (.ref f49) = true)
    (a50 : PySem.W.nsIn K mainGlobals "fits_chances" = some (some (.ref f50))) (l50 : K.lookup f50 = some ⟨oc50, od50, .func (PySem.W.fnOf "fits_chances" "fits_chances" (defArgs st_fits_chances) (defBody st_fits_chances) (defScope st_fits_chances) .none kV50 dc50 pm50 an50 cd50 ct50), sl50⟩) (c50 : PySem.W.codeIn K cd50 "fits_chances" = true) (k50 : PySem.W.keepIn K (.ref f50) = true)
    (a51 : PySem.W.nsIn K mainGlobals "are_chances" = some (some (.ref f51))) (l51 : K.lookup f51 = some ⟨oc51, od51, .func (PySem.W.fnOf "are_chances" "are_chances" (defArgs st_are_chances) (defBody st_are_chances) (defScope st_are_chances) .none kV51 dc51 pm51 an51 cd51 ct51), sl51⟩) (c51 : PySem.W.codeIn K cd51 "are_chances" = true) (k51 : PySem.W.keepIn K (.ref f51) = true)
    (a52 : PySem.W.nsIn K mainGlobals "need_chances" = some (some (.ref f52))) (l52 : K.lookup f52 = some ⟨oc52, od52, .func (PySem.W.fnOf "need_chances" "need_chances" (defArgs st_need_chances) (defBody st_need_chances) (defScope st_need_chances) .none kV52 dc52 pm52 an52 cd52 ct52), sl52⟩) (c52 : PySem.W.codeIn K cd52 "need_chances" = true) (k52 : PySem.W.keepIn K (.ref f52) = true)
    (a53 : PySem.W.nsIn K mainGlobals "mean_of" = some (some (.ref f53))) (l53 : K.lookup f53 = some ⟨oc53, od53, .func (PySem.W.fnOf "mean_of" "mean_of" (defArgs st_mean_of) (defBody st_mean_of) (defScope st_mean_of) .none kV53 dc53 pm53 an53 cd53 ct53), sl53⟩) (c53 : PySem.W.codeIn K cd53 "mean_of" = true) (k53 : PySem.W.keepIn K (.ref f53) = true)
    (a54 : PySem.W.nsIn K mainGlobals "_law_right" = some (some (.ref f54))) (l54 : K.lookup f54 = some ⟨oc54, od54, .func (PySem.W.fnOf "_law_right" "_law_right" (defArgs st__law_right) (defBody st__law_right) (defScope st__law_right) .none kV54 dc54 pm54 an54 cd54 ct54), sl54⟩) (c54 : PySem.W.codeIn K cd54 "_law_right" = true) (k54 : PySem.W.keepIn K (.ref f54) = true)
    (a55 : PySem.W.nsIn K mainGlobals "_law_turned_right" = some (some (.ref f55))) (l55 : K.lookup f55 = some ⟨oc55, od55, .func (PySem.W.fnOf "_law_turned_right" "_law_turned_right" (defArgs st__law_turned_right) (defBody st__law_turned_right) (defScope st__law_turned_right) .none kV55 dc55 pm55 an55 cd55 ct55), sl55⟩) (c55 : PySem.W.codeIn K cd55 "_law_turned_right" = true) (k55 : PySem.W.keepIn K (.ref f55) = true)
    (a56 : PySem.W.nsIn K mainGlobals "law" = some (some (.ref f56))) (l56 : K.lookup f56 = some ⟨oc56, od56, .func (PySem.W.fnOf "law" "law" (defArgs st_law) (defBody st_law) (defScope st_law) .none kV56 dc56 pm56 an56 cd56 ct56), sl56⟩) (c56 : PySem.W.codeIn K cd56 "law" = true) (k56 : PySem.W.keepIn K (.ref f56) = true)
    (z_abs : PySem.W.nsIn K mainGlobals "abs" = some none)
    (z_all : PySem.W.nsIn K mainGlobals "all" = some none)
    (z_bool : PySem.W.nsIn K mainGlobals "bool" = some none)
    (z_enumerate : PySem.W.nsIn K mainGlobals "enumerate" = some none)
    (z_int : PySem.W.nsIn K mainGlobals "int" = some none)
    (z_isinstance : PySem.W.nsIn K mainGlobals "isinstance" = some none)
    (z_len : PySem.W.nsIn K mainGlobals "len" = some none)
    (z_list : PySem.W.nsIn K mainGlobals "list" = some none)
    (z_max : PySem.W.nsIn K mainGlobals "max" = some none)
    (z_min : PySem.W.nsIn K mainGlobals "min" = some none)
    (z_range : PySem.W.nsIn K mainGlobals "range" = some none)
    (z_set : PySem.W.nsIn K mainGlobals "set" = some none)
    (z_sorted : PySem.W.nsIn K mainGlobals "sorted" = some none)
    (z_str : PySem.W.nsIn K mainGlobals "str" = some none)
    (z_sum : PySem.W.nsIn K mainGlobals "sum" = some none)
    (z_tuple : PySem.W.nsIn K mainGlobals "tuple" = some none)
    (z_zip : PySem.W.nsIn K mainGlobals "zip" = some none)
    (y_FARTHEST : PySem.W.nsIn K mainGlobals "FARTHEST" = some (some (.int 1000000 t0)))
    (y_GREAT : PySem.W.nsIn K mainGlobals "GREAT" = some (some (.int 1000000000000000000000000000000000000000000000000000000000000 t1)))
    (y_LEAST : PySem.W.nsIn K mainGlobals "LEAST" = some (some (.int (-1) t2)))
    (y_MOST_BOUND : PySem.W.nsIn K mainGlobals "MOST_BOUND" = some (some (.int 41 t3)))
    (y_MOST_VALUES : PySem.W.nsIn K mainGlobals "MOST_VALUES" = some (some (.int 40 t4)))
    (y_NONE : PySem.W.nsIn K mainGlobals "NONE" = some (some (.ref q5))) (w_NONE : K.lookup q5 = some ⟨.type "tuple", qd5, .seq #[.int 0 t5, .int 1 u5] qn5, qs5⟩)
    (y_ONE : PySem.W.nsIn K mainGlobals "ONE" = some (some (.ref q6))) (w_ONE : K.lookup q6 = some ⟨.type "tuple", qd6, .seq #[.int 1 t6, .int 1 u6] qn6, qs6⟩)
    (y_RATE_BELOW : PySem.W.nsIn K mainGlobals "RATE_BELOW" = some (some (.int 30 t7)))
    (y_TRIALS : PySem.W.nsIn K mainGlobals "TRIALS" = some (some (.int 40 t8)))
    : ∃ fd : FuncData, (∀ (s : Shared) (v : Value), BindsTo s fd ⟨[v], []⟩ [("script", v)]) ∧ ∀ base : Heap, K.In base → base.Ns mainGlobals mg → FnOk l.prog w K mg base (L2.CX l.prog w) 16 fa fd ["script"] (spLaw K) := by
  have e := hfa.symm.trans (PySem.W.mg_of X G a56)
  cases e
  have F0 := fun_mk (st := st__law_cup) l0 c0 k0
  have F1 := fun_mk (st := st__law_divisor) l1 c1 k1
  have F2 := fun_mk (st := st__law_least) l2 c2 k2
  have F3 := fun_mk (st := st__law_times) l3 c3 k3
  have F4 := fun_mk (st := st__law_sort) l4 c4 k4
  have F5 := fun_mk (st := st__law_like) l5 c5 k5
  have F6 := fun_mk (st := st_is_tuple_of) l6 c6 k6
  have F7 := fun_mk (st := st_is_integer) l7 c7 k7
  have F8 := fun_mk (st := st_is_whole) l8 c8 k8
  have F9 := fun_mk (st := st_fits_bounds) l9 c9 k9
  have F10 := fun_mk (st := st_fits_end_plan) l10 c10 k10
  have F11 := fun_mk (st := st_need_end_plan) l11 c11 k11
  have F12 := fun_mk (st := st_divisor_of) l12 c12 k12
  have F13 := fun_mk (st := st_fits_fraction) l13 c13 k13
  have F14 := fun_mk (st := st_fits_chance) l14 c14 k14
  have F15 := fun_mk (st := st_need_up_rate) l15 c15 k15
  have F16 := fun_mk (st := st_need_plan_at) l16 c16 k16
  have F17 := fun_mk (st := st_lowest) l17 c17 k17
  have F18 := fun_mk (st := st_many_times) l18 c18 k18
  have F19 := fun_mk (st := st_point_chance) l19 c19 k19
  have F20 := fun_mk (st := st_layers_of_plan) l20 c20 k20
  have F21 := fun_mk (st := st_points_in_plan) l21 c21 k21
  have F22 := fun_mk (st := st_chances_of_points) l22 c22 k22
  have F23 := fun_mk (st := st_sum_in) l23 c23 k23
  have F24 := fun_mk (st := st_sum_over) l24 c24 k24
  have F25 := fun_mk (st := st_part_up) l25 c25 k25
  have F26 := fun_mk (st := st_chance_up) l26 c26 k26
  have F27 := fun_mk (st := st_chance_down) l27 c27 k27
  have F28 := fun_mk (st := st_trials_in) l28 c28 k28
  have F29 := fun_mk (st := st_trial_chances) l29 c29 k29
  have F30 := fun_mk (st := st_mean_in) l30 c30 k30
  have F31 := fun_mk (st := st_mean_trials) l31 c31 k31
  have F32 := fun_mk (st := st__law_roll) l32 c32 k32
  have F33 := fun_mk (st := st__law_rate) l33 c33 k33
  have F34 := fun_mk (st := st__law_power) l34 c34 k34
  have F35 := fun_mk (st := st__law_plus) l35 c35 k35
  have F36 := fun_mk (st := st_ways_at) l36 c36 k36
  have F37 := fun_mk (st := st_need_end_point) l37 c37 k37
  have F38 := fun_mk (st := st_end_chance) l38 c38 k38
  have F39 := fun_mk (st := st_product_in) l39 c39 k39
  have F40 := fun_mk (st := st_share_begun) l40 c40 k40
  have F41 := fun_mk (st := st_share_mean) l41 c41 k41
  have F42 := fun_mk (st := st__law_plan) l42 c42 k42
  have F43 := fun_mk (st := st_begun_share) l43 c43 k43
  have F44 := fun_mk (st := st__law_sum) l44 c44 k44
  have F45 := fun_mk (st := st__law_some) l45 c45 k45
  have F46 := fun_mk (st := st__law_chance) l46 c46 k46
  have F47 := fun_mk (st := st__law_points) l47 c47 k47
  have F48 := fun_mk (st := st_is_rising) l48 c48 k48
  have F49 := fun_mk (st := st_is_share) l49 c49 k49
  have F50 := fun_mk (st := st_fits_chances) l50 c50 k50
  have F51 := fun_mk (st := st_are_chances) l51 c51 k51
  have F52 := fun_mk (st := st_need_chances) l52 c52 k52
  have F53 := fun_mk (st := st_mean_of) l53 c53 k53
  have F54 := fun_mk (st := st__law_right) l54 c54 k54
  have F55 := fun_mk (st := st__law_turned_right) l55 c55 k55
  have F56 := fun_mk (st := st_law) l56 c56 k56
  have b0 := F0.binds (ps := ["script"]) fun _ _ _ _ _ _ us hl => match us, hl with | [_], _ => rfl
  have b1 := F1.binds (ps := ["one", "other"]) fun _ _ _ _ _ _ us hl => match us, hl with | [_, _], _ => rfl
  have b2 := F2.binds (ps := ["above", "below"]) fun _ _ _ _ _ _ us hl => match us, hl with | [_, _], _ => rfl
  have b3 := F3.binds (ps := ["one", "other"]) fun _ _ _ _ _ _ us hl => match us, hl with | [_, _], _ => rfl
  have b4 := F4.binds (ps := ["value"]) fun _ _ _ _ _ _ us hl => match us, hl with | [_], _ => rfl
  have b5 := F5.binds (ps := ["one", "other"]) fun _ _ _ _ _ _ us hl => match us, hl with | [_, _], _ => rfl
  have b6 := F6.binds (ps := ["value", "low", "high"]) fun _ _ _ _ _ _ us hl => match us, hl with | [_, _, _], _ => rfl
  have b7 := F7.binds (ps := ["value"]) fun _ _ _ _ _ _ us hl => match us, hl with | [_], _ => rfl
  have b8 := F8.binds (ps := ["value", "low", "high"]) fun _ _ _ _ _ _ us hl => match us, hl with | [_, _, _], _ => rfl
  have b9 := F9.binds (ps := ["value"]) fun _ _ _ _ _ _ us hl => match us, hl with | [_], _ => rfl
  have b10 := F10.binds (ps := ["value"]) fun _ _ _ _ _ _ us hl => match us, hl with | [_], _ => rfl
  have b11 := F11.binds (ps := ["value"]) fun _ _ _ _ _ _ us hl => match us, hl with | [_], _ => rfl
  have b12 := F12.binds (ps := ["one", "other"]) fun _ _ _ _ _ _ us hl => match us, hl with | [_, _], _ => rfl
  have b13 := F13.binds (ps := ["value"]) fun _ _ _ _ _ _ us hl => match us, hl with | [_], _ => rfl
  have b14 := F14.binds (ps := ["value"]) fun _ _ _ _ _ _ us hl => match us, hl with | [_], _ => rfl
  have b15 := F15.binds (ps := ["value"]) fun _ _ _ _ _ _ us hl => match us, hl with | [_], _ => rfl
  have b16 := F16.binds (ps := ["plan", "rate"]) fun _ _ _ _ _ _ us hl => match us, hl with | [_, _], _ => rfl
  have b17 := F17.binds (ps := ["above", "below"]) fun _ _ _ _ _ _ us hl => match us, hl with | [_, _], _ => rfl
  have b18 := F18.binds (ps := ["number", "times"]) fun _ _ _ _ _ _ us hl => match us, hl with | [_, _], _ => rfl
  have b19 := F19.binds (ps := ["rate", "many", "ups", "ways"]) fun _ _ _ _ _ _ us hl => match us, hl with | [_, _, _, _], _ => rfl
  have b20 := F20.binds (ps := ["plan"]) fun _ _ _ _ _ _ us hl => match us, hl with | [_], _ => rfl
  have b21 := F21.binds (ps := ["plan"]) fun _ _ _ _ _ _ us hl => match us, hl with | [_], _ => rfl
  have b22 := F22.binds (ps := ["plan", "rate"]) fun _ _ _ _ _ _ us hl => match us, hl with | [_, _], _ => rfl
  have b23 := F23.binds (ps := ["one", "other"]) fun _ _ _ _ _ _ us hl => match us, hl with | [_, _], _ => rfl
  have b24 := F24.binds (ps := ["fractions"]) fun _ _ _ _ _ _ us hl => match us, hl with | [_], _ => rfl
  have b25 := F25.binds (ps := ["plan", "rate", "is_up"]) fun _ _ _ _ _ _ us hl => match us, hl with | [_, _, _], _ => rfl
  have b26 := F26.binds (ps := ["plan", "rate"]) fun _ _ _ _ _ _ us hl => match us, hl with | [_, _], _ => rfl
  have b27 := F27.binds (ps := ["plan", "rate"]) fun _ _ _ _ _ _ us hl => match us, hl with | [_, _], _ => rfl
  have b28 := F28.binds (ps := ["plan", "rate"]) fun _ _ _ _ _ _ us hl => match us, hl with | [_, _], _ => rfl
  have b29 := F29.binds (ps := ["plan", "rate"]) fun _ _ _ _ _ _ us hl => match us, hl with | [_, _], _ => rfl
  have b30 := F30.binds (ps := ["chances"]) fun _ _ _ _ _ _ us hl => match us, hl with | [_], _ => rfl
  have b31 := F31.binds (ps := ["plan", "rate"]) fun _ _ _ _ _ _ us hl => match us, hl with | [_, _], _ => rfl
  have b32 := F32.binds (ps := ["cup", "many"]) fun _ _ _ _ _ _ us hl => match us, hl with | [_, _], _ => rfl
  have b33 := F33.binds (ps := ["cup"]) fun _ _ _ _ _ _ us hl => match us, hl with | [_], _ => rfl
  have b34 := F34.binds (ps := ["number", "times"]) fun _ _ _ _ _ _ us hl => match us, hl with | [_, _], _ => rfl
  have b35 := F35.binds (ps := ["one", "other"]) fun _ _ _ _ _ _ us hl => match us, hl with | [_, _], _ => rfl
  have b36 := F36.binds (ps := ["plan", "many", "ups"]) fun _ _ _ _ _ _ us hl => match us, hl with | [_, _, _], _ => rfl
  have b37 := F37.binds (ps := ["plan", "many", "ups"]) fun _ _ _ _ _ _ us hl => match us, hl with | [_, _, _], _ => rfl
  have b38 := F38.binds (ps := ["plan", "rate", "many", "ups"]) fun _ _ _ _ _ _ us hl => match us, hl with | [_, _, _, _], _ => rfl
  have b39 := F39.binds (ps := ["one", "other"]) fun _ _ _ _ _ _ us hl => match us, hl with | [_, _], _ => rfl
  have b40 := F40.binds (ps := ["plan", "many", "ups"]) fun _ _ _ _ _ _ us hl => match us, hl with | [_, _, _], _ => rfl
  have b41 := F41.binds (ps := ["plan", "rate"]) fun _ _ _ _ _ _ us hl => match us, hl with | [_, _], _ => rfl
  have b42 := F42.binds (ps := ["cup", "most"]) fun _ _ _ _ _ _ us hl => match us, hl with | [_, _], _ => rfl
  have b43 := F43.binds (ps := ["plan", "many", "ups"]) fun _ _ _ _ _ _ us hl => match us, hl with | [_, _, _], _ => rfl
  have b44 := F44.binds (ps := ["fractions"]) fun _ _ _ _ _ _ us hl => match us, hl with | [_], _ => rfl
  have b45 := F45.binds (ps := ["cup", "things"]) fun _ _ _ _ _ _ us hl => match us, hl with | [_, _], _ => rfl
  have b46 := F46.binds (ps := ["rate", "many", "ups", "ways"]) fun _ _ _ _ _ _ us hl => match us, hl with | [_, _, _, _], _ => rfl
  have b47 := F47.binds (ps := ["plan"]) fun _ _ _ _ _ _ us hl => match us, hl with | [_], _ => rfl
  have b48 := F48.binds (ps := ["things"]) fun _ _ _ _ _ _ us hl => match us, hl with | [_], _ => rfl
  have b49 := F49.binds (ps := ["value"]) fun _ _ _ _ _ _ us hl => match us, hl with | [_], _ => rfl
  have b50 := F50.binds (ps := ["value"]) fun _ _ _ _ _ _ us hl => match us, hl with | [_], _ => rfl
  have b51 := F51.binds (ps := ["value"]) fun _ _ _ _ _ _ us hl => match us, hl with | [_], _ => rfl
  have b52 := F52.binds (ps := ["value"]) fun _ _ _ _ _ _ us hl => match us, hl with | [_], _ => rfl
  have b53 := F53.binds (ps := ["chances"]) fun _ _ _ _ _ _ us hl => match us, hl with | [_], _ => rfl
  have b54 := F54.binds (ps := ["cup", "plan", "rate"]) fun _ _ _ _ _ _ us hl => match us, hl with | [_, _, _], _ => rfl
  have b55 := F55.binds (ps := ["plan", "rate"]) fun _ _ _ _ _ _ us hl => match us, hl with | [_, _], _ => rfl
  have b56 := F56.binds (ps := ["script"]) fun _ _ _ _ _ _ us hl => match us, hl with | [_], _ => rfl
  let ad : Nat → Addr := fun j => match j with | 0 => f0 | 1 => f1 | 2 => f2 | 3 => f3 | 4 => f4 | 5 => f5 | 6 => f6 | 7 => f7 | 8 => f8 | 9 => f9 | 10 => f10 | 11 => f11 | 12 => f12 | 13 => f13 | 14 => f14 | 15 => f15 | 16 => f16 | 17 => f17 | 18 => f18 | 19 => f19 | 20 => f20 | 21 => f21 | 22 => f22 | 23 => f23 | 24 => f24 | 25 => f25 | 26 => f26 | 27 => f27 | 28 => f28 | 29 => f29 | 30 => f30 | 31 => f31 | 32 => f32 | 33 => f33 | 34 => f34 | 35 => f35 | 36 => f36 | 37 => f37 | 38 => f38 | 39 => f39 | 40 => f40 | 41 => f41 | 42 => f42 | 43 => f43 | 44 => f44 | 45 => f45 | 46 => f46 | 47 => f47 | 48 => f48 | 49 => f49 | 50 => f50 | 51 => f51 | 52 => f52 | 53 => f53 | 54 => f54 | 55 => f55 | _ => fa
  let fd : Nat → FuncData := fun j => match j with | 0 => PySem.W.fnOf "_law_cup" "_law_cup" (defArgs st__law_cup) (defBody st__law_cup) (defScope st__law_cup) .none kV0 dc0 pm0 an0 cd0 ct0 | 1 => PySem.W.fnOf "_law_divisor" "_law_divisor" (defArgs st__law_divisor) (defBody st__law_divisor) (defScope st__law_divisor) .none kV1 dc1 pm1 an1 cd1 ct1 | 2 => PySem.W.fnOf "_law_least" "_law_least" (defArgs st__law_least) (defBody st__law_least) (defScope st__law_least) .none kV2 dc2 pm2 an2 cd2 ct2 | 3 => PySem.W.fnOf "_law_times" "_law_times" (defArgs st__law_times) (defBody st__law_times) (defScope st__law_times) .none kV3 dc3 pm3 an3 cd3 ct3 | 4 => PySem.W.fnOf "_law_sort" "_law_sort" (defArgs st__law_sort) (defBody st__law_sort) (defScope st__law_sort) .none kV4 dc4 pm4 an4 cd4 ct4 | 5 => PySem.W.fnOf "_law_like" "_law_like" (defArgs st__law_like) (defBody st__law_like) (defScope st__law_like) .none kV5 dc5 pm5 an5 cd5 ct5 | 6 => PySem.W.fnOf "is_tuple_of" "is_tuple_of" (defArgs st_is_tuple_of) (defBody st_is_tuple_of) (defScope st_is_tuple_of) .none kV6 dc6 pm6 an6 cd6 ct6 | 7 => PySem.W.fnOf "is_integer" "is_integer" (defArgs st_is_integer) (defBody st_is_integer) (defScope st_is_integer) .none kV7 dc7 pm7 an7 cd7 ct7 | 8 => PySem.W.fnOf "is_whole" "is_whole" (defArgs st_is_whole) (defBody st_is_whole) (defScope st_is_whole) .none kV8 dc8 pm8 an8 cd8 ct8 | 9 => PySem.W.fnOf "fits_bounds" "fits_bounds" (defArgs st_fits_bounds) (defBody st_fits_bounds) (defScope st_fits_bounds) .none kV9 dc9 pm9 an9 cd9 ct9 | 10 => PySem.W.fnOf "fits_end_plan" "fits_end_plan" (defArgs st_fits_end_plan) (defBody st_fits_end_plan) (defScope st_fits_end_plan) .none kV10 dc10 pm10 an10 cd10 ct10 | 11 => PySem.W.fnOf "need_end_plan" "need_end_plan" (defArgs st_need_end_plan) (defBody st_need_end_plan) (defScope st_need_end_plan) .none kV11 dc11 pm11 an11 cd11 ct11 | 12 => PySem.W.fnOf "divisor_of" "divisor_of" (defArgs st_divisor_of) (defBody st_divisor_of) (defScope st_divisor_of) .none kV12 dc12 pm12 an12 cd12 ct12 | 13 => PySem.W.fnOf "fits_fraction" "fits_fraction" (defArgs st_fits_fraction) (defBody st_fits_fraction) (defScope st_fits_fraction) .none kV13 dc13 pm13 an13 cd13 ct13 | 14 => PySem.W.fnOf "fits_chance" "fits_chance" (defArgs st_fits_chance) (defBody st_fits_chance) (defScope st_fits_chance) .none kV14 dc14 pm14 an14 cd14 ct14 | 15 => PySem.W.fnOf "need_up_rate" "need_up_rate" (defArgs st_need_up_rate) (defBody st_need_up_rate) (defScope st_need_up_rate) .none kV15 dc15 pm15 an15 cd15 ct15 | 16 => PySem.W.fnOf "need_plan_at" "need_plan_at" (defArgs st_need_plan_at) (defBody st_need_plan_at) (defScope st_need_plan_at) .none kV16 dc16 pm16 an16 cd16 ct16 | 17 => PySem.W.fnOf "lowest" "lowest" (defArgs st_lowest) (defBody st_lowest) (defScope st_lowest) .none kV17 dc17 pm17 an17 cd17 ct17 | 18 => PySem.W.fnOf "many_times" "many_times" (defArgs st_many_times) (defBody st_many_times) (defScope st_many_times) .none kV18 dc18 pm18 an18 cd18 ct18 | 19 => PySem.W.fnOf "point_chance" "point_chance" (defArgs st_point_chance) (defBody st_point_chance) (defScope st_point_chance) .none kV19 dc19 pm19 an19 cd19 ct19 | 20 => PySem.W.fnOf "layers_of_plan" "layers_of_plan" (defArgs st_layers_of_plan) (defBody st_layers_of_plan) (defScope st_layers_of_plan) .none kV20 dc20 pm20 an20 cd20 ct20 | 21 => PySem.W.fnOf "points_in_plan" "points_in_plan" (defArgs st_points_in_plan) (defBody st_points_in_plan) (defScope st_points_in_plan) .none kV21 dc21 pm21 an21 cd21 ct21 | 22 => PySem.W.fnOf "chances_of_points" "chances_of_points" (defArgs st_chances_of_points) (defBody st_chances_of_points) (defScope st_chances_of_points) .none kV22 dc22 pm22 an22 cd22 ct22 | 23 => PySem.W.fnOf "sum_in" "sum_in" (defArgs st_sum_in) (defBody st_sum_in) (defScope st_sum_in) .none kV23 dc23 pm23 an23 cd23 ct23 | 24 => PySem.W.fnOf "sum_over" "sum_over" (defArgs st_sum_over) (defBody st_sum_over) (defScope st_sum_over) .none kV24 dc24 pm24 an24 cd24 ct24 | 25 => PySem.W.fnOf "part_up" "part_up" (defArgs st_part_up) (defBody st_part_up) (defScope st_part_up) .none kV25 dc25 pm25 an25 cd25 ct25 | 26 => PySem.W.fnOf "chance_up" "chance_up" (defArgs st_chance_up) (defBody st_chance_up) (defScope st_chance_up) .none kV26 dc26 pm26 an26 cd26 ct26 | 27 => PySem.W.fnOf "chance_down" "chance_down" (defArgs st_chance_down) (defBody st_chance_down) (defScope st_chance_down) .none kV27 dc27 pm27 an27 cd27 ct27 | 28 => PySem.W.fnOf "trials_in" "trials_in" (defArgs st_trials_in) (defBody st_trials_in) (defScope st_trials_in) .none kV28 dc28 pm28 an28 cd28 ct28 | 29 => PySem.W.fnOf "trial_chances" "trial_chances" (defArgs st_trial_chances) (defBody st_trial_chances) (defScope st_trial_chances) .none kV29 dc29 pm29 an29 cd29 ct29 | 30 => PySem.W.fnOf "mean_in" "mean_in" (defArgs st_mean_in) (defBody st_mean_in) (defScope st_mean_in) .none kV30 dc30 pm30 an30 cd30 ct30 | 31 => PySem.W.fnOf "mean_trials" "mean_trials" (defArgs st_mean_trials) (defBody st_mean_trials) (defScope st_mean_trials) .none kV31 dc31 pm31 an31 cd31 ct31 | 32 => PySem.W.fnOf "_law_roll" "_law_roll" (defArgs st__law_roll) (defBody st__law_roll) (defScope st__law_roll) .none kV32 dc32 pm32 an32 cd32 ct32 | 33 => PySem.W.fnOf "_law_rate" "_law_rate" (defArgs st__law_rate) (defBody st__law_rate) (defScope st__law_rate) .none kV33 dc33 pm33 an33 cd33 ct33 | 34 => PySem.W.fnOf "_law_power" "_law_power" (defArgs st__law_power) (defBody st__law_power) (defScope st__law_power) .none kV34 dc34 pm34 an34 cd34 ct34 | 35 => PySem.W.fnOf "_law_plus" "_law_plus" (defArgs st__law_plus) (defBody st__law_plus) (defScope st__law_plus) .none kV35 dc35 pm35 an35 cd35 ct35 | 36 => PySem.W.fnOf "ways_at" "ways_at" (defArgs st_ways_at) (defBody st_ways_at) (defScope st_ways_at) .none kV36 dc36 pm36 an36 cd36 ct36 | 37 => PySem.W.fnOf "need_end_point" "need_end_point" (defArgs st_need_end_point) (defBody st_need_end_point) (defScope st_need_end_point) .none kV37 dc37 pm37 an37 cd37 ct37 | 38 => PySem.W.fnOf "end_chance" "end_chance" (defArgs st_end_chance) (defBody st_end_chance) (defScope st_end_chance) .none kV38 dc38 pm38 an38 cd38 ct38 | 39 => PySem.W.fnOf "product_in" "product_in" (defArgs st_product_in) (defBody st_product_in) (defScope st_product_in) .none kV39 dc39 pm39 an39 cd39 ct39 | 40 => PySem.W.fnOf "share_begun" "share_begun" (defArgs st_share_begun) (defBody st_share_begun) (defScope st_share_begun) .none kV40 dc40 pm40 an40 cd40 ct40 | 41 => PySem.W.fnOf "share_mean" "share_mean" (defArgs st_share_mean) (defBody st_share_mean) (defScope st_share_mean) .none kV41 dc41 pm41 an41 cd41 ct41 | 42 => PySem.W.fnOf "_law_plan" "_law_plan" (defArgs st__law_plan) (defBody st__law_plan) (defScope st__law_plan) .none kV42 dc42 pm42 an42 cd42 ct42 | 43 => PySem.W.fnOf "begun_share" "begun_share" (defArgs st_begun_share) (defBody st_begun_share) (defScope st_begun_share) .none kV43 dc43 pm43 an43 cd43 ct43 | 44 => PySem.W.fnOf "_law_sum" "_law_sum" (defArgs st__law_sum) (defBody st__law_sum) (defScope st__law_sum) .none kV44 dc44 pm44 an44 cd44 ct44 | 45 => PySem.W.fnOf "_law_some" "_law_some" (defArgs st__law_some) (defBody st__law_some) (defScope st__law_some) .none kV45 dc45 pm45 an45 cd45 ct45 | 46 => PySem.W.fnOf "_law_chance" "_law_chance" (defArgs st__law_chance) (defBody st__law_chance) (defScope st__law_chance) .none kV46 dc46 pm46 an46 cd46 ct46 | 47 => PySem.W.fnOf "_law_points" "_law_points" (defArgs st__law_points) (defBody st__law_points) (defScope st__law_points) .none kV47 dc47 pm47 an47 cd47 ct47 | 48 => PySem.W.fnOf "is_rising" "is_rising" (defArgs st_is_rising) (defBody st_is_rising) (defScope st_is_rising) .none kV48 dc48 pm48 an48 cd48 ct48 | 49 => PySem.W.fnOf "is_share" "is_share" (defArgs st_is_share) (defBody st_is_share) (defScope st_is_share) .none kV49 dc49 pm49 an49 cd49 ct49 | 50 => PySem.W.fnOf "fits_chances" "fits_chances" (defArgs st_fits_chances) (defBody st_fits_chances) (defScope st_fits_chances) .none kV50 dc50 pm50 an50 cd50 ct50 | 51 => PySem.W.fnOf "are_chances" "are_chances" (defArgs st_are_chances) (defBody st_are_chances) (defScope st_are_chances) .none kV51 dc51 pm51 an51 cd51 ct51 | 52 => PySem.W.fnOf "need_chances" "need_chances" (defArgs st_need_chances) (defBody st_need_chances) (defScope st_need_chances) .none kV52 dc52 pm52 an52 cd52 ct52 | 53 => PySem.W.fnOf "mean_of" "mean_of" (defArgs st_mean_of) (defBody st_mean_of) (defScope st_mean_of) .none kV53 dc53 pm53 an53 cd53 ct53 | 54 => PySem.W.fnOf "_law_right" "_law_right" (defArgs st__law_right) (defBody st__law_right) (defScope st__law_right) .none kV54 dc54 pm54 an54 cd54 ct54 | 55 => PySem.W.fnOf "_law_turned_right" "_law_turned_right" (defArgs st__law_turned_right) (defBody st__law_turned_right) (defScope st__law_turned_right) .none kV55 dc55 pm55 an55 cd55 ct55 | _ => PySem.W.fnOf "law" "law" (defArgs st_law) (defBody st_law) (defScope st_law) .none kV56 dc56 pm56 an56 cd56 ct56
  have T : Txt K mg ad fd := ⟨PySem.W.mg_of X G a0, k0, b0, PySem.W.mg_of X G a1, k1, b1, PySem.W.mg_of X G a2, k2, b2, PySem.W.mg_of X G a3, k3, b3, PySem.W.mg_of X G a4, k4, b4, PySem.W.mg_of X G a5, k5, b5, PySem.W.mg_of X G a6, k6, b6, PySem.W.mg_of X G a7, k7, b7, PySem.W.mg_of X G a8, k8, b8, PySem.W.mg_of X G a9, k9, b9, PySem.W.mg_of X G a10, k10, b10, PySem.W.mg_of X G a11, k11, b11, PySem.W.mg_of X G a12, k12, b12, PySem.W.mg_of X G a13, k13, b13, PySem.W.mg_of X G a14, k14, b14, PySem.W.mg_of X G a15, k15, b15, PySem.W.mg_of X G a16, k16, b16, PySem.W.mg_of X G a17, k17, b17, PySem.W.mg_of X G a18, k18, b18, PySem.W.mg_of X G a19, k19, b19, PySem.W.mg_of X G a20, k20, b20, PySem.W.mg_of X G a21, k21, b21, PySem.W.mg_of X G a22, k22, b22, PySem.W.mg_of X G a23, k23, b23, PySem.W.mg_of X G a24, k24, b24, PySem.W.mg_of X G a25, k25, b25, PySem.W.mg_of X G a26, k26, b26, PySem.W.mg_of X G a27, k27, b27, PySem.W.mg_of X G a28, k28, b28, PySem.W.mg_of X G a29, k29, b29, PySem.W.mg_of X G a30, k30, b30, PySem.W.mg_of X G a31, k31, b31, PySem.W.mg_of X G a32, k32, b32, PySem.W.mg_of X G a33, k33, b33, PySem.W.mg_of X G a34, k34, b34, PySem.W.mg_of X G a35, k35, b35, PySem.W.mg_of X G a36, k36, b36, PySem.W.mg_of X G a37, k37, b37, PySem.W.mg_of X G a38, k38, b38, PySem.W.mg_of X G a39, k39, b39, PySem.W.mg_of X G a40, k40, b40, PySem.W.mg_of X G a41, k41, b41, PySem.W.mg_of X G a42, k42, b42, PySem.W.mg_of X G a43, k43, b43, PySem.W.mg_of X G a44, k44, b44, PySem.W.mg_of X G a45, k45, b45, PySem.W.mg_of X G a46, k46, b46, PySem.W.mg_of X G a47, k47, b47, PySem.W.mg_of X G a48, k48, b48, PySem.W.mg_of X G a49, k49, b49, PySem.W.mg_of X G a50, k50, b50, PySem.W.mg_of X G a51, k51, b51, PySem.W.mg_of X G a52, k52, b52, PySem.W.mg_of X G a53, k53, b53, PySem.W.mg_of X G a54, k54, b54, PySem.W.mg_of X G a55, k55, b55, PySem.W.mg_none_of X G z_abs, PySem.W.mg_none_of X G z_all, PySem.W.mg_none_of X G z_bool, PySem.W.mg_none_of X G z_enumerate, PySem.W.mg_none_of X G z_int, PySem.W.mg_none_of X G z_isinstance, PySem.W.mg_none_of X G z_len, PySem.W.mg_none_of X G z_list, PySem.W.mg_none_of X G z_max, PySem.W.mg_none_of X G z_min, PySem.W.mg_none_of X G z_range, PySem.W.mg_none_of X G z_set, PySem.W.mg_none_of X G z_sorted, PySem.W.mg_none_of X G z_str, PySem.W.mg_none_of X G z_sum, PySem.W.mg_none_of X G z_tuple, PySem.W.mg_none_of X G z_zip, ⟨_, PySem.W.mg_of X G y_FARTHEST⟩, ⟨_, PySem.W.mg_of X G y_GREAT⟩, ⟨_, PySem.W.mg_of X G y_LEAST⟩, ⟨_, PySem.W.mg_of X G y_MOST_BOUND⟩, ⟨_, PySem.W.mg_of X G y_MOST_VALUES⟩, ⟨_, PySem.W.mg_of X G y_NONE, rp_tup2 w_NONE⟩, ⟨_, PySem.W.mg_of X G y_ONE, rp_tup2 w_ONE⟩, ⟨_, PySem.W.mg_of X G y_RATE_BELOW⟩, ⟨_, PySem.W.mg_of X G y_TRIALS⟩⟩
  refine ⟨fd 56, fun s v => .of_eq rfl, fun base _ _ => ?_⟩
  have G__law_cup := ok__law_cup (P := l.prog) (w := w) (base := base) (cl := fun _ => 0) T F0 
  have G__law_divisor := ok__law_divisor (P := l.prog) (w := w) (base := base) (cl := fun _ => 0) T F1 
  have G__law_least := ok__law_least (P := l.prog) (w := w) (base := base) (cl := fun _ => 0) T F2 G__law_divisor
  have G__law_times := ok__law_times (P := l.prog) (w := w) (base := base) (cl := fun _ => 0) T F3 G__law_least
  have G__law_sort := ok__law_sort (P := l.prog) (w := w) (base := base) (cl := fun _ => 0) T F4 
  have G__law_like := ok__law_like (P := l.prog) (w := w) (base := base) (cl := fun _ => 0) T F5 G__law_sort 12
  have G_is_tuple_of := ok_is_tuple_of (P := l.prog) (w := w) (base := base) (cl := fun _ => 0) T F6 
  have G_is_integer := ok_is_integer (P := l.prog) (w := w) (base := base) (cl := fun _ => 0) T F7 
  have G_is_whole := ok_is_whole (P := l.prog) (w := w) (base := base) (cl := fun _ => 0) T F8 G_is_integer
  have G_fits_bounds := ok_fits_bounds (P := l.prog) (w := w) (base := base) (cl := fun _ => 0) T F9 G_is_tuple_of G_is_whole
  have G_fits_end_plan := ok_fits_end_plan (P := l.prog) (w := w) (base := base) (cl := fun _ => 0) T F10 G_is_tuple_of G_fits_bounds
  have G_need_end_plan := ok_need_end_plan (P := l.prog) (w := w) (base := base) (cl := fun _ => 0) T F11 G_fits_end_plan
  have G_divisor_of := ok_divisor_of (P := l.prog) (w := w) (base := base) (cl := fun _ => 0) T F12 
  have G_fits_fraction := ok_fits_fraction (P := l.prog) (w := w) (base := base) (cl := fun _ => 0) T F13 G_is_tuple_of G_is_integer G_divisor_of
  have G_fits_chance := ok_fits_chance (P := l.prog) (w := w) (base := base) (cl := fun _ => 0) T F14 G_fits_fraction
  have G_need_up_rate := ok_need_up_rate (P := l.prog) (w := w) (base := base) (cl := fun _ => 0) T F15 G_fits_chance
  have G_need_plan_at := ok_need_plan_at (P := l.prog) (w := w) (base := base) (cl := fun _ => 0) T F16 G_need_end_plan G_need_up_rate
  have G_lowest := ok_lowest (P := l.prog) (w := w) (base := base) (cl := fun _ => 0) T F17 G_divisor_of
  have G_many_times := ok_many_times (P := l.prog) (w := w) (base := base) (cl := fun _ => 0) T F18 
  have G_point_chance := ok_point_chance (P := l.prog) (w := w) (base := base) (cl := fun _ => 0) T F19 G_many_times G_lowest
  have G_layers_of_plan := ok_layers_of_plan (P := l.prog) (w := w) (base := base) (cl := fun _ => 0) T F20 
  have G_points_in_plan := ok_points_in_plan (P := l.prog) (w := w) (base := base) (cl := fun _ => 0) T F21 G_layers_of_plan
  have G_chances_of_points := ok_chances_of_points (P := l.prog) (w := w) (base := base) (cl := fun _ => 0) T F22 G_points_in_plan G_point_chance
  have G_sum_in := ok_sum_in (P := l.prog) (w := w) (base := base) (cl := fun _ => 0) T F23 G_lowest
  have G_sum_over := ok_sum_over (P := l.prog) (w := w) (base := base) (cl := fun _ => 0) T F24 G_sum_in
  have G_part_up := ok_part_up (P := l.prog) (w := w) (base := base) (cl := fun _ => 0) T F25 G_chances_of_points G_sum_over
  have G_chance_up := ok_chance_up (P := l.prog) (w := w) (base := base) (cl := fun _ => 0) T F26 G_need_plan_at G_part_up
  have G_chance_down := ok_chance_down (P := l.prog) (w := w) (base := base) (cl := fun _ => 0) T F27 G_need_plan_at G_part_up
  have G_trials_in := ok_trials_in (P := l.prog) (w := w) (base := base) (cl := fun _ => 0) T F28 G_chances_of_points G_sum_over
  have G_trial_chances := ok_trial_chances (P := l.prog) (w := w) (base := base) (cl := fun _ => 0) T F29 G_need_plan_at G_trials_in
  have G_mean_in := ok_mean_in (P := l.prog) (w := w) (base := base) (cl := fun _ => 0) T F30 G_lowest G_sum_over
  have G_mean_trials := ok_mean_trials (P := l.prog) (w := w) (base := base) (cl := fun _ => 0) T F31 G_need_plan_at G_trials_in G_mean_in
  have G__law_roll := ok__law_roll (P := l.prog) (w := w) (base := base) (cl := fun _ => 0) T F32 
  have G__law_rate := ok__law_rate (P := l.prog) (w := w) (base := base) (cl := fun _ => 0) T F33 G__law_roll G__law_least
  have G__law_power := ok__law_power (P := l.prog) (w := w) (base := base) (cl := fun _ => 0) T F34 
  have G__law_plus := ok__law_plus (P := l.prog) (w := w) (base := base) (cl := fun _ => 0) T F35 G__law_least
  have G_ways_at := ok_ways_at (P := l.prog) (w := w) (base := base) (cl := fun _ => 0) T F36 G_points_in_plan
  have G_need_end_point := ok_need_end_point (P := l.prog) (w := w) (base := base) (cl := fun _ => 0) T F37 G_is_whole G_ways_at
  have G_end_chance := ok_end_chance (P := l.prog) (w := w) (base := base) (cl := fun _ => 0) T F38 G_need_plan_at G_need_end_point G_ways_at G_point_chance
  have G_product_in := ok_product_in (P := l.prog) (w := w) (base := base) (cl := fun _ => 0) T F39 G_lowest
  have G_share_begun := ok_share_begun (P := l.prog) (w := w) (base := base) (cl := fun _ => 0) T F40 G_ways_at G_lowest
  have G_share_mean := ok_share_mean (P := l.prog) (w := w) (base := base) (cl := fun _ => 0) T F41 G_need_plan_at G_chances_of_points G_share_begun G_product_in G_sum_over
  have G__law_plan := ok__law_plan (P := l.prog) (w := w) (base := base) (cl := fun _ => 0) T F42 G__law_roll
  have G_begun_share := ok_begun_share (P := l.prog) (w := w) (base := base) (cl := fun _ => 0) T F43 G_need_end_plan G_need_end_point G_share_begun
  have G__law_sum := ok__law_sum (P := l.prog) (w := w) (base := base) (cl := fun _ => 0) T F44 G__law_plus
  have G__law_some := ok__law_some (P := l.prog) (w := w) (base := base) (cl := fun _ => 0) T F45 G__law_roll
  have G__law_chance := ok__law_chance (P := l.prog) (w := w) (base := base) (cl := fun _ => 0) T F46 G__law_power G__law_least
  have G__law_points := ok__law_points (P := l.prog) (w := w) (base := base) (cl := fun _ => 0) T F47 
  have G_is_rising := ok_is_rising (P := l.prog) (w := w) (base := base) (cl := fun _ => 0) T F48 
  have G_is_share := ok_is_share (P := l.prog) (w := w) (base := base) (cl := fun _ => 0) T F49 G_is_tuple_of G_is_whole G_fits_chance
  have G_fits_chances := ok_fits_chances (P := l.prog) (w := w) (base := base) (cl := fun _ => 0) T F50 G_is_tuple_of G_is_share G_is_rising G_sum_over
  have G_are_chances := ok_are_chances (P := l.prog) (w := w) (base := base) (cl := fun _ => 0) T F51 G_fits_chances
  have G_need_chances := ok_need_chances (P := l.prog) (w := w) (base := base) (cl := fun _ => 0) T F52 G_fits_chances
  have G_mean_of := ok_mean_of (P := l.prog) (w := w) (base := base) (cl := fun _ => 0) T F53 G_need_chances G_mean_in
  have G__law_right := ok__law_right (P := l.prog) (w := w) (base := base) (cl := fun _ => 0) T F54 G__law_points G__law_chance G__law_sum G_chance_up G_chance_down G__law_plus G__law_like G__law_least G_trial_chances G_mean_trials G_share_mean G_are_chances G_mean_of G__law_some G_end_chance G__law_times
  have G__law_turned_right := ok__law_turned_right (P := l.prog) (w := w) (base := base) (cl := fun _ => 0) T F55 G_chance_up G_chance_down G_mean_trials G__law_like
  have G_law := ok_law (P := l.prog) (w := w) (base := base) (cl := fun _ => 0) T F56 G__law_cup G_chance_up G_chance_down G_trial_chances G_mean_trials G_end_chance G_share_mean G__law_like G__law_roll G__law_plan G__law_rate G__law_least G__law_right G__law_turned_right G__law_power G__law_plus G__law_times G_begun_share
  exact G_law.imp law_sp
end K77
open PySem PySem.W PyProof.Rows
set_option maxRecDepth 100000 in
set_option maxHeartbeats 0 in
theorem PySem.Challenge.cw_exacttests_k77_whole_plans_at_rates_holds : PySem.Challenge.rw_exacttests_k77_whole_plans_at_rates.Holds := by
  w_on; o_law; k_head; (case hw => w_witness2)
  k_fill
  refine L2.walk_of (l := PySem.Challenge.rw_exacttests_k77_whole_plans_at_rates) (n := 63) (k := 16) (x := "script") (CX := fun w => L2.CX PySem.Challenge.rw_exacttests_k77_whole_plans_at_rates.prog w) (sp := fun w => K77.spLaw _) rfl (by decide) rfl ⟨rfl, by decide, by decide⟩ (fun w h Y => PySem.W.kIn_of Y) ?F (fun _ _ a ns hl _ hS => ⟨a, ns, rfl, hS, hl, fun _ => rfl⟩) (fun _ _ _ _ _ h => by obtain ⟨_, _, _, _, _, _, _, _, _, _, _, _, z⟩ := h; exact z)
  case F =>
    intro w mg fa h KX G hmg
    refine' K77.all_mk KX G hmg ?a0 ?l0 ?c0 ?k0 ?a1 ?l1 ?c1 ?k1 ?a2 ?l2 ?c2 ?k2 ?a3 ?l3 ?c3 ?k3 ?a4 ?l4 ?c4 ?k4 ?a5 ?l5 ?c5 ?k5 ?a6 ?l6 ?c6 ?k6 ?a7 ?l7 ?c7 ?k7 ?a8 ?l8 ?c8 ?k8 ?a9 ?l9 ?c9 ?k9 ?a10 ?l10 ?c10 ?k10 ?a11 ?l11 ?c11 ?k11 ?a12 ?l12 ?c12 ?k12 ?a13 ?l13 ?c13 ?k13 ?a14 ?l14 ?c14 ?k14 ?a15 ?l15 ?c15 ?k15 ?a16 ?l16 ?c16 ?k16 ?a17 ?l17 ?c17 ?k17 ?a18 ?l18 ?c18 ?k18 ?a19 ?l19 ?c19 ?k19 ?a20 ?l20 ?c20 ?k20 ?a21 ?l21 ?c21 ?k21 ?a22 ?l22 ?c22 ?k22 ?a23 ?l23 ?c23 ?k23 ?a24 ?l24 ?c24 ?k24 ?a25 ?l25 ?c25 ?k25 ?a26 ?l26 ?c26 ?k26 ?a27 ?l27 ?c27 ?k27 ?a28 ?l28 ?c28 ?k28 ?a29 ?l29 ?c29 ?k29 ?a30 ?l30 ?c30 ?k30 ?a31 ?l31 ?c31 ?k31 ?a32 ?l32 ?c32 ?k32 ?a33 ?l33 ?c33 ?k33 ?a34 ?l34 ?c34 ?k34 ?a35 ?l35 ?c35 ?k35 ?a36 ?l36 ?c36 ?k36 ?a37 ?l37 ?c37 ?k37 ?a38 ?l38 ?c38 ?k38 ?a39 ?l39 ?c39 ?k39 ?a40 ?l40 ?c40 ?k40 ?a41 ?l41 ?c41 ?k41 ?a42 ?l42 ?c42 ?k42 ?a43 ?l43 ?c43 ?k43 ?a44 ?l44 ?c44 ?k44 ?a45 ?l45 ?c45 ?k45 ?a46 ?l46 ?c46 ?k46 ?a47 ?l47 ?c47 ?k47 ?a48 ?l48 ?c48 ?k48 ?a49 ?l49 ?c49 ?k49 ?a50 ?l50 ?c50 ?k50 ?a51 ?l51 ?c51 ?k51 ?a52 ?l52 ?c52 ?k52 ?a53 ?l53 ?c53 ?k53 ?a54 ?l54 ?c54 ?k54 ?a55 ?l55 ?c55 ?k55 ?a56 ?l56 ?c56 ?k56 ?z_abs ?z_all ?z_bool ?z_enumerate ?z_int ?z_isinstance ?z_len ?z_list ?z_max ?z_min ?z_range ?z_set ?z_sorted ?z_str ?z_sum ?z_tuple ?z_zip ?y_FARTHEST ?y_GREAT ?y_LEAST ?y_MOST_BOUND ?y_MOST_VALUES ?y_NONE ?w_NONE ?y_ONE ?w_ONE ?y_RATE_BELOW ?y_TRIALS
    (case a0 => k_is); (case l0 => k_is); (case c0 => k_is); (case k0 => k_is)
    (case a1 => k_is); (case l1 => k_is); (case c1 => k_is); (case k1 => k_is)
    (case a2 => k_is); (case l2 => k_is); (case c2 => k_is); (case k2 => k_is)
    (case a3 => k_is); (case l3 => k_is); (case c3 => k_is); (case k3 => k_is)
    (case a4 => k_is); (case l4 => k_is); (case c4 => k_is); (case k4 => k_is)
    (case a5 => k_is); (case l5 => k_is); (case c5 => k_is); (case k5 => k_is)
    (case a6 => k_is); (case l6 => k_is); (case c6 => k_is); (case k6 => k_is)
    (case a7 => k_is); (case l7 => k_is); (case c7 => k_is); (case k7 => k_is)
    (case a8 => k_is); (case l8 => k_is); (case c8 => k_is); (case k8 => k_is)
    (case a9 => k_is); (case l9 => k_is); (case c9 => k_is); (case k9 => k_is)
    (case a10 => k_is); (case l10 => k_is); (case c10 => k_is); (case k10 => k_is)
    (case a11 => k_is); (case l11 => k_is); (case c11 => k_is); (case k11 => k_is)
    (case a12 => k_is); (case l12 => k_is); (case c12 => k_is); (case k12 => k_is)
    (case a13 => k_is); (case l13 => k_is); (case c13 => k_is); (case k13 => k_is)
    (case a14 => k_is); (case l14 => k_is); (case c14 => k_is); (case k14 => k_is)
    (case a15 => k_is); (case l15 => k_is); (case c15 => k_is); (case k15 => k_is)
    (case a16 => k_is); (case l16 => k_is); (case c16 => k_is); (case k16 => k_is)
    (case a17 => k_is); (case l17 => k_is); (case c17 => k_is); (case k17 => k_is)
    (case a18 => k_is); (case l18 => k_is); (case c18 => k_is); (case k18 => k_is)
    (case a19 => k_is); (case l19 => k_is); (case c19 => k_is); (case k19 => k_is)
    (case a20 => k_is); (case l20 => k_is); (case c20 => k_is); (case k20 => k_is)
    (case a21 => k_is); (case l21 => k_is); (case c21 => k_is); (case k21 => k_is)
    (case a22 => k_is); (case l22 => k_is); (case c22 => k_is); (case k22 => k_is)
    (case a23 => k_is); (case l23 => k_is); (case c23 => k_is); (case k23 => k_is)
    (case a24 => k_is); (case l24 => k_is); (case c24 => k_is); (case k24 => k_is)
    (case a25 => k_is); (case l25 => k_is); (case c25 => k_is); (case k25 => k_is)
    (case a26 => k_is); (case l26 => k_is); (case c26 => k_is); (case k26 => k_is)
    (case a27 => k_is); (case l27 => k_is); (case c27 => k_is); (case k27 => k_is)
    (case a28 => k_is); (case l28 => k_is); (case c28 => k_is); (case k28 => k_is)
    (case a29 => k_is); (case l29 => k_is); (case c29 => k_is); (case k29 => k_is)
    (case a30 => k_is); (case l30 => k_is); (case c30 => k_is); (case k30 => k_is)
    (case a31 => k_is); (case l31 => k_is); (case c31 => k_is); (case k31 => k_is)
    (case a32 => k_is); (case l32 => k_is); (case c32 => k_is); (case k32 => k_is)
    (case a33 => k_is); (case l33 => k_is); (case c33 => k_is); (case k33 => k_is)
    (case a34 => k_is); (case l34 => k_is); (case c34 => k_is); (case k34 => k_is)
    (case a35 => k_is); (case l35 => k_is); (case c35 => k_is); (case k35 => k_is)
    (case a36 => k_is); (case l36 => k_is); (case c36 => k_is); (case k36 => k_is)
    (case a37 => k_is); (case l37 => k_is); (case c37 => k_is); (case k37 => k_is)
    (case a38 => k_is); (case l38 => k_is); (case c38 => k_is); (case k38 => k_is)
    (case a39 => k_is); (case l39 => k_is); (case c39 => k_is); (case k39 => k_is)
    (case a40 => k_is); (case l40 => k_is); (case c40 => k_is); (case k40 => k_is)
    (case a41 => k_is); (case l41 => k_is); (case c41 => k_is); (case k41 => k_is)
    (case a42 => k_is); (case l42 => k_is); (case c42 => k_is); (case k42 => k_is)
    (case a43 => k_is); (case l43 => k_is); (case c43 => k_is); (case k43 => k_is)
    (case a44 => k_is); (case l44 => k_is); (case c44 => k_is); (case k44 => k_is)
    (case a45 => k_is); (case l45 => k_is); (case c45 => k_is); (case k45 => k_is)
    (case a46 => k_is); (case l46 => k_is); (case c46 => k_is); (case k46 => k_is)
    (case a47 => k_is); (case l47 => k_is); (case c47 => k_is); (case k47 => k_is)
    (case a48 => k_is); (case l48 => k_is); (case c48 => k_is); (case k48 => k_is)
    (case a49 => k_is); (case l49 => k_is); (case c49 => k_is); (case k49 => k_is)
    (case a50 => k_is); (case l50 => k_is); (case c50 => k_is); (case k50 => k_is)
    (case a51 => k_is); (case l51 => k_is); (case c51 => k_is); (case k51 => k_is)
    (case a52 => k_is); (case l52 => k_is); (case c52 => k_is); (case k52 => k_is)
    (case a53 => k_is); (case l53 => k_is); (case c53 => k_is); (case k53 => k_is)
    (case a54 => k_is); (case l54 => k_is); (case c54 => k_is); (case k54 => k_is)
    (case a55 => k_is); (case l55 => k_is); (case c55 => k_is); (case k55 => k_is)
    (case a56 => k_is); (case l56 => k_is); (case c56 => k_is); (case k56 => k_is)
    (case z_abs => k_is)
    (case z_all => k_is)
    (case z_bool => k_is)
    (case z_enumerate => k_is)
    (case z_int => k_is)
    (case z_isinstance => k_is)
    (case z_len => k_is)
    (case z_list => k_is)
    (case z_max => k_is)
    (case z_min => k_is)
    (case z_range => k_is)
    (case z_set => k_is)
    (case z_sorted => k_is)
    (case z_str => k_is)
    (case z_sum => k_is)
    (case z_tuple => k_is)
    (case z_zip => k_is)
    (case y_FARTHEST => k_is)
    (case y_GREAT => k_is)
    (case y_LEAST => k_is)
    (case y_MOST_BOUND => k_is)
    (case y_MOST_VALUES => k_is)
    (case y_NONE => k_is)
    (case w_NONE => k_is)
    (case y_ONE => k_is)
    (case w_ONE => k_is)
    (case y_RATE_BELOW => k_is)
    (case y_TRIALS => k_is)
