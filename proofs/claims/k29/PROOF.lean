import PyProof.Rows.All
import Wide.All
import OpenK.AllK
import Wide.FinOn
import HandS.ForExc
import HandS.Comp
import HandS.Iter
import HandS.Text
import HandS.Zip
import HandS.TupAny
import HandS.Conv
import HandS.IsInst
import HandS.Evl
import HandS.Defaults
import HandS.HeadHook1
import PySem.Challenge.RW_cloak_k29_whole_explained_from_every_ses
import KE.KStateDown
import HandS.More
import HandS.Head0
import HandS.Head1
import HandS.Head2
import HandS.HeadEnd
import HandS.HeadHook2
set_option Elab.async false
set_option linter.all false
set_option autoImplicit false
set_option maxRecDepth 100000
set_option maxHeartbeats 1000000
/-! Fw1: plain data (PyData: ints, bools, texts, tuples; lists of these; the script) told of values over the heap; environments of data. -/
namespace Fw
open PySem PySem.Spec PyProof.Rows L2 Evl
/-- the errors of the program -/
inductive Er | na | bp
  deriving DecidableEq
/-! ### data over the heap -/
mutual
inductive Tp (H : Hp) : V → PyData → Prop
  | non : Tp H .non .none
  | bl (b : Bool) : Tp H (.bl b) (.bool b)
  | int (i : Int) : Tp H (.int i) (.int i)
  | str (x : Str) : Tp H (.str x) (.str x)
  | tup {a : Addr} {xs : List V} {ds : List PyData} : H a = some (.tup xs) → TpA H xs ds → Tp H (.ref a) (.tuple ds)
inductive TpA (H : Hp) : List V → List PyData → Prop
  | nil : TpA H [] []
  | cons {v : V} {vs : List V} {d : PyData} {ds : List PyData} : Tp H v d → TpA H vs ds → TpA H (v :: vs) (d :: ds)
end
/-- all tuples of H stand in H' -/
def Et (H H' : Hp) : Prop := ∀ a xs, H a = some (.tup xs) → H' a = some (.tup xs)
theorem Et.refl (H : Hp) : Et H H := fun _ _ h => h
theorem Et.of {H H' : Hp} (e : Ex H H') : Et H H' := fun a _ h => e a _ h
theorem Et.updL {H : Hp} {p : Addr} {xs ys : List V} (h : H p = some (.lst xs)) : Et H (upd H p (.lst ys)) := fun a zs e => by
  have ne : a ≠ p := fun z => by rw [z, h] at e; cases e
  rw [upd_ne ne]; exact e
mutual
theorem Tp.mono {H H' : Hp} (e : Et H H') : ∀ {v : V} {d : PyData}, Tp H v d → Tp H' v d
  | _, _, .non => .non
  | _, _, .bl b => .bl b
  | _, _, .int i => .int i
  | _, _, .str x => .str x
  | _, _, .tup h t => .tup (e _ _ h) (TpA.mono e t)
theorem TpA.mono {H H' : Hp} (e : Et H H') : ∀ {vs : List V} {ds : List PyData}, TpA H vs ds → TpA H' vs ds
  | _, _, .nil => .nil
  | _, _, .cons h t => .cons (Tp.mono e h) (TpA.mono e t)
end
theorem TpA.length {H : Hp} : ∀ {vs : List V} {ds : List PyData}, TpA H vs ds → vs.length = ds.length
  | _, _, .nil => rfl
  | _, _, .cons _ t => congrArg (· + 1) (TpA.length t)
theorem TpA.get {H : Hp} : ∀ {vs : List V} {ds : List PyData} {i : Nat} {d : PyData}, TpA H vs ds → ds[i]? = some d → ∃ v, vs[i]? = some v ∧ Tp H v d
  | _, _, _, _, .nil, e => by simp at e
  | _, _, 0, _, .cons h _, e => by
    simp at e
    subst e
    exact ⟨_, rfl, h⟩
  | _, _, i + 1, _, .cons _ t, e => by
    obtain ⟨v, h1, h2⟩ := TpA.get (i := i) t (by simpa using e)
    exact ⟨v, by simpa using h1, h2⟩
theorem TpA.get' {H : Hp} : ∀ {vs : List V} {ds : List PyData} {i : Nat} {v : V}, TpA H vs ds → vs[i]? = some v → ∃ d, ds[i]? = some d ∧ Tp H v d
  | _, _, _, _, .nil, e => by simp at e
  | _, _, 0, _, .cons h _, e => by
    simp at e
    subst e
    exact ⟨_, rfl, h⟩
  | _, _, i + 1, _, .cons _ t, e => by
    obtain ⟨v, h1, h2⟩ := TpA.get' (i := i) t (by simpa using e)
    exact ⟨v, by simpa using h1, h2⟩
theorem TpA.append {H : Hp} : ∀ {vs ws : List V} {ds es : List PyData}, TpA H vs ds → TpA H ws es → TpA H (vs ++ ws) (ds ++ es)
  | _, _, _, _, .nil, s => s
  | _, _, _, _, .cons h t, s => .cons h (TpA.append t s)
theorem TpA.take {H : Hp} : ∀ {vs : List V} {ds : List PyData} (n : Nat), TpA H vs ds → TpA H (vs.take n) (ds.take n)
  | _, _, 0, _ => .nil
  | _, _, _ + 1, .nil => .nil
  | _, _, n + 1, .cons h t => .cons h (TpA.take n t)
theorem TpA.drop {H : Hp} : ∀ {vs : List V} {ds : List PyData} (n : Nat), TpA H vs ds → TpA H (vs.drop n) (ds.drop n)
  | _, _, 0, r => r
  | _, _, _ + 1, .nil => .nil
  | _, _, n + 1, .cons _ t => TpA.drop n t
theorem TpA.set {H : Hp} {v : V} {d : PyData} (h : Tp H v d) : ∀ {vs : List V} {ds : List PyData} (i : Nat), TpA H vs ds → TpA H (vs.set i v) (ds.set i d)
  | _, _, _, .nil => .nil
  | _, _, 0, .cons _ t => .cons h t
  | _, _, i + 1, .cons q t => .cons q (TpA.set h i t)
theorem TpA.one {H : Hp} {v : V} {d : PyData} (h : Tp H v d) : TpA H [v] [d] := .cons h .nil
theorem Tp.int_inv {H : Hp} {v : V} {i : Int} (h : Tp H v (.int i)) : v = .int i := by cases h; rfl
theorem Tp.bool_inv {H : Hp} {v : V} {b : Bool} (h : Tp H v (.bool b)) : v = .bl b := by cases h; rfl
theorem Tp.str_inv {H : Hp} {v : V} {x : Str} (h : Tp H v (.str x)) : v = .str x := by cases h; rfl
theorem TpA.ints {H : Hp} : ∀ {vs : List V} {ns : List Int}, TpA H vs (ns.map .int) → vs = ns.map .int
  | _, [], h => by cases h; rfl
  | _, n :: ns, h => by
    cases h with
    | cons a t =>
      rw [Tp.int_inv a, TpA.ints t]
      rfl
theorem TpA.bools {H : Hp} : ∀ {vs : List V} {ns : List Bool}, TpA H vs (ns.map .bool) → vs = ns.map .bl
  | _, [], h => by cases h; rfl
  | _, n :: ns, h => by
    cases h with
    | cons a t =>
      rw [Tp.bool_inv a, TpA.bools t]
      rfl
theorem TpA.strs {H : Hp} : ∀ {vs : List V} {ns : List Str}, TpA H vs (ns.map .str) → vs = ns.map .str
  | _, [], h => by cases h; rfl
  | _, n :: ns, h => by
    cases h with
    | cons a t =>
      rw [Tp.str_inv a, TpA.strs t]
      rfl
mutual
theorem Tp.dp {K : PySem.W.Frag} {H : Hp} : ∀ {v : V} {d : PyData}, Tp H v d → Dp K H v d
  | _, _, .non => .non
  | _, _, .bl b => .bl b
  | _, _, .int i => .int i
  | _, _, .str x => .str x
  | _, _, .tup h t => .tup (SqT.of h) (TpA.dp t)
theorem TpA.dp {K : PySem.W.Frag} {H : Hp} : ∀ {vs : List V} {ds : List PyData}, TpA H vs ds → DpAll K H vs ds
  | _, _, .nil => .nil
  | _, _, .cons h t => .cons (Tp.dp h) (TpA.dp t)
end
/-- the script, as data -/
def scr (ns : List Int) : PyData := .dict (ns.map fun n => (.int n, .none))
/-- data without lists -/
def flat : PyData → Bool
  | .list _ => false
  | .dict _ => false
  | _ => true
/-- what a value stands for: flat data, a list of them, the script -/
def Rp (K : PySem.W.Frag) (H : Hp) (v : V) (d : PyData) : Prop :=
  Tp H v d ∨ (∃ a xs ds, v = .ref a ∧ d = .list ds ∧ H a = some (.lst xs) ∧ TpA H xs ds) ∨ ∃ a ns, v = .ref a ∧ d = scr ns ∧ SqL K H a (ns.map V.int)
section
variable {K : PySem.W.Frag} {H H' : Hp} {v : V} {d : PyData}
theorem Rp.mono (e : Ex H H') (h : Rp K H v d) : Rp K H' v d := by
  rcases h with h | ⟨a, xs, ds, h1, h2, h3, h4⟩ | ⟨a, ns, h1, h2, h3⟩
  · exact .inl (h.mono (.of e))
  · exact .inr (.inl ⟨a, xs, ds, h1, h2, e _ _ h3, h4.mono (.of e)⟩)
  · exact .inr (.inr ⟨a, ns, h1, h2, ex_l e h3⟩)
theorem Rp.flat (hf : flat d = true) (h : Rp K H v d) : Tp H v d := by
  rcases h with h | ⟨a, xs, ds, h1, h2, h3, h4⟩ | ⟨a, ns, h1, h2, h3⟩
  · exact h
  · subst h2; cases hf
  · subst h2; cases hf
theorem Rp.int {i : Int} (h : Rp K H v (.int i)) : v = .int i := (h.flat rfl).int_inv
theorem Rp.bool {b : Bool} (h : Rp K H v (.bool b)) : v = .bl b := (h.flat rfl).bool_inv
theorem Rp.str {x : Str} (h : Rp K H v (.str x)) : v = .str x := (h.flat rfl).str_inv
theorem Rp.none (h : Rp K H v .none) : v = .non := by
  have q := h.flat rfl
  cases q
  rfl
theorem Rp.tuple {ds : List PyData} (h : Rp K H v (.tuple ds)) : ∃ a xs, v = .ref a ∧ H a = some (.tup xs) ∧ TpA H xs ds := by
  have q := h.flat rfl
  cases q with
  | tup h1 t => exact ⟨_, _, rfl, h1, t⟩
theorem Rp.list {ds : List PyData} (h : Rp K H v (.list ds)) : ∃ a xs, v = .ref a ∧ H a = some (.lst xs) ∧ TpA H xs ds := by
  rcases h with h | ⟨a, xs, ds', h1, h2, h3, h4⟩ | ⟨a, ns, h1, h2, h3⟩
  · cases h
  · cases h2
    exact ⟨a, xs, h1, h3, h4⟩
  · cases h2
theorem scr_inj {ns ms : List Int} (h : scr ns = scr ms) : ns = ms := by
  unfold scr at h
  injection h with h
  have : ∀ (ns ms : List Int), (ns.map fun n => ((.int n : PyData), (.none : PyData))) = (ms.map fun n => (.int n, .none)) → ns = ms := by
    intro ns
    induction ns with
    | nil =>
      intro ms h
      cases ms with
      | nil => rfl
      | cons a r => cases h
    | cons a r ih =>
      intro ms h
      cases ms with
      | nil => cases h
      | cons b t =>
        simp only [List.map_cons, List.cons.injEq, Prod.mk.injEq, PyData.int.injEq, and_true] at h
        rw [h.1, ih t h.2]
  exact this ns ms h
theorem Rp.scr {ns : List Int} (h : Rp K H v (scr ns)) : ∃ a, v = .ref a ∧ SqL K H a (ns.map V.int) := by
  rcases h with h | ⟨a, xs, ds', h1, h2, h3, h4⟩ | ⟨a, ms, h1, h2, h3⟩
  · cases h
  · cases h2
  · rw [scr_inj h2]
    exact ⟨a, h1, h3⟩
theorem rp_int {i : Int} : Rp K H (.int i) (.int i) := .inl (.int i)
theorem rp_bool {b : Bool} : Rp K H (.bl b) (.bool b) := .inl (.bl b)
theorem rp_str {x : Str} : Rp K H (.str x) (.str x) := .inl (.str x)
theorem rp_none : Rp K H .non .none := .inl .non
theorem rp_list {a : Addr} {xs : List V} {ds : List PyData} (h : H a = some (.lst xs)) (t : TpA H xs ds) : Rp K H (.ref a) (.list ds) := .inr (.inl ⟨a, xs, ds, rfl, rfl, h, t⟩)
theorem rp_tup {a : Addr} {xs : List V} {ds : List PyData} (h : H a = some (.tup xs)) (t : TpA H xs ds) : Rp K H (.ref a) (.tuple ds) := .inl (.tup h t)
end
/-- argument lists -/
inductive RpA (K : PySem.W.Frag) (H : Hp) : List V → List PyData → Prop
  | nil : RpA K H [] []
  | cons {v : V} {vs : List V} {d : PyData} {ds : List PyData} : Rp K H v d → RpA K H vs ds → RpA K H (v :: vs) (d :: ds)
section
variable {K : PySem.W.Frag} {H H' : Hp}
theorem RpA.mono (e : Ex H H') : ∀ {vs : List V} {ds : List PyData}, RpA K H vs ds → RpA K H' vs ds
  | _, _, .nil => .nil
  | _, _, .cons h t => .cons (h.mono e) (RpA.mono e t)
theorem RpA.length : ∀ {vs : List V} {ds : List PyData}, RpA K H vs ds → vs.length = ds.length
  | _, _, .nil => rfl
  | _, _, .cons _ t => congrArg (· + 1) (RpA.length t)
theorem RpA.get : ∀ {vs : List V} {ds : List PyData} {i : Nat} {d : PyData}, RpA K H vs ds → ds[i]? = some d → ∃ v, vs[i]? = some v ∧ Rp K H v d
  | _, _, _, _, .nil, e => by simp at e
  | _, _, 0, _, .cons h _, e => by
    simp at e
    subst e
    exact ⟨_, rfl, h⟩
  | _, _, i + 1, _, .cons _ t, e => by
    obtain ⟨v, h1, h2⟩ := RpA.get (i := i) t (by simpa using e)
    exact ⟨v, by simpa using h1, h2⟩
theorem RpA.tp : ∀ {vs : List V} {ds : List PyData}, RpA K H vs ds → (∀ d ∈ ds, flat d = true) → TpA H vs ds
  | _, _, .nil, _ => .nil
  | _, _, .cons h t, hf => .cons (h.flat (hf _ List.mem_cons_self)) (RpA.tp t fun d hd => hf d (List.mem_cons_of_mem _ hd))
end
/-! ### environments -/
/-- what the slots hold; one list that is being built: its slot, its items -/
structure En where
  ρ : List (Option PyData)
  o : Option (Nat × List PyData)
def En.set (e : En) (i : Nat) (d : PyData) : En := ⟨e.ρ.set i (some d), match e.o with
  | some (j, ds) => if j = i then none else some (j, ds)
  | none => none⟩
def En.setO (e : En) (i : Nat) (ds : List PyData) : En := ⟨e.ρ.set i none, some (i, ds)⟩
/-- the slots hold what e says: all but the list that is being built stands in M, which stays -/
structure RSM (K : PySem.W.Frag) (M H : Hp) (σ : L2.St) (e : En) : Prop where
  ex : Ex M H
  len : σ.length = e.ρ.length
  val : ∀ (i : Nat) (d : PyData), e.ρ[i]? = some (some d) → ∃ v, σ[i]? = some (some v) ∧ Rp K M v d
  own : ∀ (j : Nat) (ds : List PyData), e.o = some (j, ds) → ∃ (a : Addr) (xs : List V), σ[j]? = some (some (.ref a)) ∧ M a = none ∧ H a = some (.lst xs) ∧ TpA M xs ds
def RS (K : PySem.W.Frag) (B H : Hp) (σ : L2.St) (e : En) : Prop := ∃ M, Ex B M ∧ RSM K M H σ e
section
variable {K : PySem.W.Frag} {B M H H' : Hp} {σ : L2.St} {e : En}
theorem RSM.mono (h : RSM K M H σ e) (x : Ex H H') : RSM K M H' σ e :=
  ⟨h.ex.trans x, h.len, h.val, fun j ds q => by
    obtain ⟨a, xs, h1, h2, h3, h4⟩ := h.own j ds q
    exact ⟨a, xs, h1, h2, x _ _ h3, h4⟩⟩
theorem RSM.rs (h : RSM K M H σ e) (x : Ex B M) : RS K B H σ e := ⟨M, x, h⟩
theorem RS.mono (h : RS K B H σ e) (x : Ex H H') : RS K B H' σ e := by
  obtain ⟨M, x1, h1⟩ := h
  exact ⟨M, x1, h1.mono x⟩
theorem RS.down {B' : Hp} (h : RS K B' H σ e) (x : Ex B B') : RS K B H σ e := by
  obtain ⟨M, x1, h1⟩ := h
  exact ⟨M, x.trans x1, h1⟩
theorem RS.ex (h : RS K B H σ e) : Ex B H := by
  obtain ⟨M, x1, h1⟩ := h
  exact x1.trans h1.ex
/-- all that stands may be taken in, but the list that is being built -/
theorem RSM.grow (h : RSM K M H σ e) : ∃ M', Ex M M' ∧ RSM K M' H σ e ∧ Et H M' ∧ (e.o = none → M' = H) ∧ (∀ p u, H p = some u → (∀ (j : Nat) (ds : List PyData), e.o = some (j, ds) → σ[j]? ≠ some (some (.ref p))) → M' p = some u) := by
  cases ho : e.o with
  | none => exact ⟨H, h.ex, ⟨Ex.refl H, h.len, fun i d q => let ⟨v, h1, h2⟩ := h.val i d q; ⟨v, h1, h2.mono h.ex⟩, fun j ds q => (by rw [ho] at q; cases q)⟩, Et.refl H, fun _ => rfl, fun p u q _ => q⟩
  | some q =>
    obtain ⟨j, ds⟩ := q
    obtain ⟨a, xs, h1, h2, h3, h4⟩ := h.own j ds ho
    have x1 : Ex M (fun b => if b = a then none else H b) := fun b o q => by
      have ne : b ≠ a := fun z => by rw [z, h2] at q; cases q
      show (if b = a then none else H b) = some o
      rw [if_neg ne]
      exact h.ex b o q
    have x2 : Ex (fun b => if b = a then none else H b) H := fun b o q => by
      have q' : (if b = a then none else H b) = some o := q
      by_cases z : b = a
      · rw [if_pos z] at q'; cases q'
      · rw [if_neg z] at q'; exact q'
    refine ⟨fun b => if b = a then none else H b, x1, ⟨x2, h.len, fun i d q => let ⟨v, g1, g2⟩ := h.val i d q; ⟨v, g1, g2.mono x1⟩, fun j' ds' q => ?_⟩, fun b ys q => ?_, fun z => (by cases z), fun p u q np => ?_⟩
    · rw [ho] at q
      cases q
      exact ⟨a, xs, h1, if_pos rfl, h3, h4.mono (.of x1)⟩
    · show (if b = a then none else H b) = some (.tup ys)
      have ne : b ≠ a := fun z => by rw [z, h3] at q; cases q
      rw [if_neg ne]
      exact q
    · show (if p = a then none else H p) = some u
      have ne : p ≠ a := fun z => np j ds rfl (by rw [z]; exact h1)
      rw [if_neg ne]
      exact q
/-- a slot is written -/
theorem RSM.put {i : Nat} {v : V} {d : PyData} (h : RSM K M H σ e) (r : Rp K M v d) : RSM K M H (σ.set i (some v)) (e.set i d) := by
  refine ⟨h.ex, ?_, fun k d' q => ?_, fun j ds q => ?_⟩
  · show (σ.set i (some v)).length = (e.ρ.set i (some d)).length
    rw [List.length_set, List.length_set]
    exact h.len
  · have q' : (e.ρ.set i (some d))[k]? = some (some d') := q
    by_cases z : i = k
    · subst z
      by_cases hl : i < e.ρ.length
      · rw [List.getElem?_set_self hl] at q'
        cases q'
        refine ⟨v, ?_, r⟩
        rw [List.getElem?_set_self (by rw [h.len]; exact hl)]
      · rw [List.getElem?_eq_none (by rw [List.length_set]; omega)] at q'
        cases q'
    · rw [List.getElem?_set_ne z] at q'
      obtain ⟨w, h1, h2⟩ := h.val k d' q'
      exact ⟨w, by rw [List.getElem?_set_ne z]; exact h1, h2⟩
  · unfold En.set at q
    cases ho : e.o with
    | none => simp only [ho] at q; cases q
    | some p =>
      obtain ⟨j0, ds0⟩ := p
      simp only [ho] at q
      by_cases z : j0 = i
      · rw [if_pos z] at q; cases q
      · rw [if_neg z] at q
        cases q
        obtain ⟨a, xs, h1, h2, h3, h4⟩ := h.own j ds ho
        exact ⟨a, xs, by rw [List.getElem?_set_ne (Ne.symm z)]; exact h1, h2, h3, h4⟩
/-- a new list comes into a slot, to be built on -/
theorem RSM.putO {i : Nat} {p : Addr} {xs : List V} {ds : List PyData} (h : RSM K M H σ e) (hi : i < e.ρ.length) (hM : M p = none) (hp : H p = some (.lst xs)) (t : TpA M xs ds) : RSM K M H (σ.set i (some (.ref p))) (e.setO i ds) := by
  refine ⟨h.ex, ?_, fun k d' q => ?_, fun j ds' q => ?_⟩
  · show (σ.set i _).length = (e.ρ.set i none).length
    rw [List.length_set, List.length_set]
    exact h.len
  · have q' : (e.ρ.set i none)[k]? = some (some d') := q
    by_cases z : i = k
    · subst z
      rw [List.getElem?_set_self hi] at q'
      cases q'
    · rw [List.getElem?_set_ne z] at q'
      obtain ⟨w, h1, h2⟩ := h.val k d' q'
      exact ⟨w, by rw [List.getElem?_set_ne z]; exact h1, h2⟩
  · have q' : some (i, ds) = some (j, ds') := q
    cases q'
    exact ⟨p, xs, List.getElem?_set_self (by rw [h.len]; exact hi), hM, hp, t⟩
/-- the list that was built stays as it is from here on -/
theorem RSM.freeze {j : Nat} {ds : List PyData} (h : RSM K M H σ e) (ho : e.o = some (j, ds)) (hj : j < e.ρ.length) : ∃ M', Ex M M' ∧ RSM K M' H σ ⟨e.ρ.set j (some (.list ds)), none⟩ := by
  obtain ⟨a, xs, h1, h2, h3, h4⟩ := h.own j ds ho
  have x1 : Ex M (upd M a (.lst xs)) := Ex.new h2
  refine ⟨upd M a (.lst xs), x1, ⟨fun b o q => ?_, ?_, fun k d q => ?_, fun _ _ q => (by cases q)⟩⟩
  · by_cases z : b = a
    · subst z
      rw [upd_same] at q
      cases q
      exact h3
    · rw [upd_ne z] at q
      exact h.ex b o q
  · show σ.length = (e.ρ.set j _).length
    rw [List.length_set]
    exact h.len
  · have q' : (e.ρ.set j (some (.list ds)))[k]? = some (some d) := q
    by_cases z : j = k
    · subst z
      rw [List.getElem?_set_self hj] at q'
      cases q'
      exact ⟨_, h1, rp_list upd_same (h4.mono (.of x1))⟩
    · rw [List.getElem?_set_ne z] at q'
      obtain ⟨w, g1, g2⟩ := h.val k d q'
      exact ⟨w, g1, g2.mono x1⟩
end
end Fw
set_option Elab.async false
set_option linter.all false
set_option autoImplicit false
set_option maxRecDepth 100000
set_option maxHeartbeats 1000000
/-! Fw2: expressions: weakest preconditions over data. -/
namespace Fw
open PySem PySem.Spec PyProof.Rows L2 Evl
section
variable (K : PySem.W.Frag) (ea : Er → Addr) (W : WX)
/-- the expression comes to data of which P holds; an error that it raises is one of R -/
def Vl (te : TE) (e : En) (P : PyData → Prop) (R : Er → Prop) : Prop := ∀ (M H : Hp) (σ : L2.St) (Q : VK), RSM K M H σ e →
  (∀ d v H', P d → Ex H H' → Rp K H' v d → Q v H') → (∀ er H', R er → Ex H H' → W (.ref (ea er)) none σ H') → te σ H Q
/-- .. to a new list -/
def Vn (te : TE) (e : En) (P : List PyData → Prop) (R : Er → Prop) : Prop := ∀ (M H : Hp) (σ : L2.St) (Q : VK), RSM K M H σ e →
  (∀ ds p xs H', P ds → Ex H H' → H p = none → H' p = some (.lst xs) → TpA H' xs ds → Q (.ref p) H') → (∀ er H', R er → Ex H H' → W (.ref (ea er)) none σ H') → te σ H Q
def Va (ta : TA) (e : En) (P : List PyData → Prop) (R : Er → Prop) : Prop := ∀ (M H : Hp) (σ : L2.St) (Q : List V → Hp → Prop), RSM K M H σ e →
  (∀ ds vs H', P ds → Ex H H' → RpA K H' vs ds → Q vs H') → (∀ er H', R er → Ex H H' → W (.ref (ea er)) none σ H') → ta σ H Q
def Vt (tt : TT) (e : En) (P : Bool → Prop) (R : Er → Prop) : Prop := ∀ (M H : Hp) (σ : L2.St) (Q : Bool → Hp → Prop), RSM K M H σ e →
  (∀ b H', P b → Ex H H' → Q b H') → (∀ er H', R er → Ex H H' → W (.ref (ea er)) none σ H') → tt σ H Q
def Vo (to : TO) (e : En) (P : Option Int → Prop) (R : Er → Prop) : Prop := ∀ (M H : Hp) (σ : L2.St) (Q : Option Int → Hp → Prop), RSM K M H σ e →
  (∀ i H', P i → Ex H H' → Q i H') → (∀ er H', R er → Ex H H' → W (.ref (ea er)) none σ H') → to σ H Q
/-- two values put together -/
def Op (r : R2) (a b : PyData) (P : PyData → Prop) : Prop := ∀ (H : Hp) (x y : V) (Q : VK), Rp K H x a → Rp K H y b → (∀ d v H', P d → Ex H H' → Rp K H' v d → Q v H') → r x y H Q
/-- a function's promise: F arguments result -/
def spF (F : List PyData → Except Er PyData → Prop) : Sp := fun vs H Q E => ∃ ds r, RpA K H vs ds ∧ F ds r ∧ (∀ d v H', r = .ok d → Ex H H' → Rp K H' v d → Q v H') ∧ (∀ er H', r = .error er → Ex H H' → E (.ref (ea er)) none H')
/-- .. that hands back a new list -/
def spN (F : List PyData → List PyData → Prop) : Sp := fun vs H Q _ => ∃ ds r, RpA K H vs ds ∧ F ds r ∧ ∀ p xs H', Ex H H' → H p = none → H' p = some (.lst xs) → TpA H' xs r → Q (.ref p) H'
end
section
variable {K : PySem.W.Frag} {ea : Er → Addr} {W : WX} {e : En} {P : PyData → Prop} {R : Er → Prop} {ta tb te tc : TE}
theorem vl_imp {P' : PyData → Prop} (h : Vl K ea W te e P R) (k : ∀ d, P d → P' d) : Vl K ea W te e P' R := fun M H σ Q rs kp kr => h M H σ Q rs (fun d v H' p => kp d v H' (k d p)) kr
theorem vn_imp {P P' : List PyData → Prop} (h : Vn K ea W te e P R) (k : ∀ d, P d → P' d) : Vn K ea W te e P' R := fun M H σ Q rs kp kr => h M H σ Q rs (fun d v xs H' p => kp d v xs H' (k d p)) kr
theorem vt_imp {tt : TT} {P P' : Bool → Prop} (h : Vt K ea W tt e P R) (k : ∀ d, P d → P' d) : Vt K ea W tt e P' R := fun M H σ Q rs kp kr => h M H σ Q rs (fun d H' p => kp d H' (k d p)) kr
theorem vl_var {i : Nat} {d : PyData} (h : e.ρ[i]? = some (some d)) (p : P d) : Vl K ea W (tVar i) e P R := fun M H σ Q rs kp _ => by
  obtain ⟨v, h1, h2⟩ := rs.val i d h
  exact ⟨v, h1, kp d v H p (Ex.refl H) (h2.mono rs.ex)⟩
theorem vl_own {j : Nat} {ds : List PyData} (h : e.o = some (j, ds)) (p : P (.list ds)) : Vl K ea W (tVar j) e P R := fun M H σ Q rs kp _ => by
  obtain ⟨a, xs, h1, h2, h3, h4⟩ := rs.own j ds h
  exact ⟨.ref a, h1, kp _ _ H p (Ex.refl H) (rp_list h3 (h4.mono (.of rs.ex)))⟩
theorem vl_int {i : Int} (p : P (.int i)) : Vl K ea W (tC (.int i)) e P R := fun M H σ Q rs kp _ => kp _ _ H p (Ex.refl H) rp_int
theorem vl_bl {i : Bool} (p : P (.bool i)) : Vl K ea W (tC (.bl i)) e P R := fun M H σ Q rs kp _ => kp _ _ H p (Ex.refl H) rp_bool
theorem vl_str {i : Str} (p : P (.str i)) : Vl K ea W (tC (.str i)) e P R := fun M H σ Q rs kp _ => kp _ _ H p (Ex.refl H) rp_str
theorem vl_non (p : P .none) : Vl K ea W (tC .non) e P R := fun M H σ Q rs kp _ => kp _ _ H p (Ex.refl H) rp_none
theorem vl_op {r : R2} (h : Vl K ea W ta e (fun a => Vl K ea W tb e (fun b => Op K r a b P) R) R) : Vl K ea W (tOp r ta tb) e P R := fun M H σ Q rs kp kr => by
  refine h M H σ _ rs (fun a x H1 pa e1 ra => ?_) kr
  refine pa M H1 σ _ (rs.mono e1) (fun b y H2 pb e2 rb => ?_) fun er H2 q e2 => kr er H2 q (e1.trans e2)
  exact pb H2 x y Q (ra.mono e2) rb fun d v H3 p e3 => kp d v H3 p ((e1.trans e2).trans e3)
theorem op_I0 {g : Int → Int → Int} {i j : Int} (p : P (.int (g i j))) : Op K (rI0 fun i j => .int (g i j)) (.int i) (.int j) P := fun H x y Q ra rb kp => by
  rw [ra.int, rb.int]
  exact ⟨i, j, rfl, rfl, kp _ _ H p (Ex.refl H) rp_int⟩
theorem op_B0 {g : Int → Int → Bool} {i j : Int} (p : P (.bool (g i j))) : Op K (rI0 fun i j => .bl (g i j)) (.int i) (.int j) P := fun H x y Q ra rb kp => by
  rw [ra.int, rb.int]
  exact ⟨i, j, rfl, rfl, kp _ _ H p (Ex.refl H) rp_bool⟩
theorem op_I {C : Int → Int → Prop} {g : Int → Int → Int} {i j : Int} (c : C i j) (p : P (.int (g i j))) : Op K (rI C fun i j => .int (g i j)) (.int i) (.int j) P := fun H x y Q ra rb kp => by
  rw [ra.int, rb.int]
  exact ⟨i, j, rfl, rfl, c, kp _ _ H p (Ex.refl H) rp_int⟩
theorem op_eqI {i j : Int} (p : P (.bool (decide (i = j)))) : Op K rEq (.int i) (.int j) P := fun H x y Q ra rb kp => by
  rw [ra.int, rb.int]
  refine ⟨rfl, ?_⟩
  have z : decide (V.int i = V.int j) = decide (i = j) := by rw [decide_eq_decide]; exact ⟨fun h => V.int.inj h, fun h => by rw [h]⟩
  rw [z]
  exact kp _ _ H p (Ex.refl H) rp_bool
theorem op_neI {i j : Int} (p : P (.bool (!decide (i = j)))) : Op K rNe (.int i) (.int j) P := fun H x y Q ra rb kp => by
  rw [ra.int, rb.int]
  refine ⟨rfl, ?_⟩
  have z : decide (V.int i = V.int j) = decide (i = j) := by rw [decide_eq_decide]; exact ⟨fun h => V.int.inj h, fun h => by rw [h]⟩
  rw [z]
  exact kp _ _ H p (Ex.refl H) rp_bool
theorem op_neB {i j : Bool} (p : P (.bool (!decide (i = j)))) : Op K rNe (.bool i) (.bool j) P := fun H x y Q ra rb kp => by
  rw [ra.bool, rb.bool]
  refine ⟨rfl, ?_⟩
  have z : decide (V.bl i = V.bl j) = decide (i = j) := by rw [decide_eq_decide]; exact ⟨fun h => V.bl.inj h, fun h => by rw [h]⟩
  rw [z]
  exact kp _ _ H p (Ex.refl H) rp_bool
theorem op_eqDt {a b : PyData} (fa : flat a = true) (fb : flat b = true) (sa : SeqAt.shaped a = true) (sb : SeqAt.shaped b = true) (p : P (.bool (PyData.eqv a b))) : Op K (rEqD K) a b P := fun H x y Q ra rb kp =>
  ⟨a, b, (ra.flat fa).dp, (rb.flat fb).dp, sa, sb, kp _ _ H p (Ex.refl H) rp_bool⟩
theorem op_neDt {a b : PyData} (fa : flat a = true) (fb : flat b = true) (sa : SeqAt.shaped a = true) (sb : SeqAt.shaped b = true) (p : P (.bool (!PyData.eqv a b))) : Op K (rNeD K) a b P := fun H x y Q ra rb kp =>
  ⟨a, b, (ra.flat fa).dp, (rb.flat fb).dp, sa, sb, kp _ _ H p (Ex.refl H) rp_bool⟩
theorem tpa_at {H : Hp} {vs : List V} {ds : List PyData} {i : Int} {d : PyData} (t : TpA H vs ds) (h : atI ds i = some d) : ∃ v, atI vs i = some v ∧ Tp H v d := by
  unfold atI at h
  cases q : ixN ds.length i with
  | none => rw [q] at h; cases h
  | some j =>
    rw [q] at h
    obtain ⟨v, h1, h2⟩ := t.get (i := j) h
    refine ⟨v, ?_, h2⟩
    unfold atI
    rw [t.length, q]
    exact h1
theorem op_ixL {ds : List PyData} {i : Int} {d : PyData} (h : atI ds i = some d) (p : P d) : Op K (rIxL K) (.list ds) (.int i) P := fun H x y Q ra rb kp => by
  obtain ⟨a, xs, rfl, h1, h2⟩ := ra.list
  rw [rb.int]
  obtain ⟨v, g1, g2⟩ := tpa_at h2 h
  exact ⟨a, xs, i, v, rfl, rfl, SqL.of h1, g1, kp _ _ H p (Ex.refl H) (.inl g2)⟩
theorem op_ixS {ns : List Int} {i n : Int} (h : atI ns i = some n) (p : P (.int n)) : Op K (rIxL K) (scr ns) (.int i) P := fun H x y Q ra rb kp => by
  obtain ⟨a, rfl, h1⟩ := ra.scr
  rw [rb.int]
  refine ⟨a, _, i, .int n, rfl, rfl, h1, ?_, kp _ _ H p (Ex.refl H) rp_int⟩
  unfold atI at h ⊢
  rw [List.length_map]
  cases q : ixN ns.length i with
  | none => rw [q] at h; cases h
  | some j =>
    rw [q] at h
    show (ns.map V.int)[j]? = some (.int n)
    rw [List.getElem?_map, show ns[j]? = some n from h]
    rfl
theorem op_ixT {ds : List PyData} {i : Int} {d : PyData} (h : atI ds i = some d) (p : P d) : Op K (rIxT K) (.tuple ds) (.int i) P := fun H x y Q ra rb kp => by
  obtain ⟨a, xs, rfl, h1, h2⟩ := ra.tuple
  rw [rb.int]
  obtain ⟨v, g1, g2⟩ := tpa_at h2 h
  exact ⟨a, xs, i, v, rfl, rfl, SqT.of h1, g1, kp _ _ H p (Ex.refl H) (.inl g2)⟩
theorem op_catD {xs ys : List PyData} (hz : xs.length + ys.length ≤ 100000) (p : P (.tuple (xs ++ ys))) : Op K (rCatA K) (.tuple xs) (.tuple ys) P := fun H x y Q ra rb kp => by
  obtain ⟨a, us, rfl, h1, h2⟩ := ra.tuple
  obtain ⟨b, ws, rfl, h3, h4⟩ := rb.tuple
  refine ⟨a, b, us, ws, rfl, rfl, SqT.of h1, SqT.of h3, by rw [h2.length, h4.length]; exact sz_of hz, fun z => ?_, fun _ z => ?_, fun _ _ q hq => ?_⟩
  · subst z
    cases h2
    exact kp _ _ H p (Ex.refl H) rb
  · subst z
    cases h4
    rw [List.append_nil] at p
    exact kp _ _ H p (Ex.refl H) ra
  · exact kp _ _ _ p (Ex.new hq) (rp_tup upd_same ((h2.append h4).mono (.of (Ex.new hq))))
/-! ### tests, and, or, not -/
theorem vl_and (h : Vl K ea W ta e (fun a => ∃ c, a = .bool c ∧ (c = true → Vl K ea W tb e P R) ∧ (c = false → P (.bool false))) R) : Vl K ea W (tAndV ta tb) e P R := fun M H σ Q rs kp kr => by
  refine h M H σ _ rs (fun a x H1 pa e1 ra => ?_) kr
  obtain ⟨c, rfl, h1, h2⟩ := pa
  refine ⟨c, ra.bool, ?_⟩
  cases c with
  | true => exact h1 rfl M H1 σ Q (rs.mono e1) (fun d v H2 p e2 => kp d v H2 p (e1.trans e2)) fun er H2 q e2 => kr er H2 q (e1.trans e2)
  | false => exact kp _ _ H1 (h2 rfl) e1 rp_bool
theorem vl_or (h : Vl K ea W ta e (fun a => ∃ c, a = .bool c ∧ (c = false → Vl K ea W tb e P R) ∧ (c = true → P (.bool true))) R) : Vl K ea W (tOrV ta tb) e P R := fun M H σ Q rs kp kr => by
  refine h M H σ _ rs (fun a x H1 pa e1 ra => ?_) kr
  obtain ⟨c, rfl, h1, h2⟩ := pa
  refine ⟨c, ra.bool, ?_⟩
  cases c with
  | false => exact h1 rfl M H1 σ Q (rs.mono e1) (fun d v H2 p e2 => kp d v H2 p (e1.trans e2)) fun er H2 q e2 => kr er H2 q (e1.trans e2)
  | true => exact kp _ _ H1 (h2 rfl) e1 rp_bool
theorem vl_not (h : Vl K ea W ta e (fun a => ∃ c, a = .bool c ∧ P (.bool (!c))) R) : Vl K ea W (tNotV ta) e P R := fun M H σ Q rs kp kr => by
  refine h M H σ _ rs (fun a x H1 pa e1 ra => ?_) kr
  obtain ⟨c, rfl, h1⟩ := pa
  exact ⟨c, ra.bool, kp _ _ H1 h1 e1 rp_bool⟩
/-- a < b < c over ints -/
theorem vl_chain {g g' : Int → Int → Bool} (h : Vl K ea W ta e (fun a => ∃ i, a = .int i ∧ Vl K ea W tb e (fun b => ∃ j, b = .int j ∧ (g i j = true → Vl K ea W tc e (fun c => ∃ k, c = .int k ∧ P (.bool (g' j k))) R) ∧ (g i j = false → P (.bool false))) R) R) :
    Vl K ea W (tChain (rI0 fun i j => .bl (g i j)) (rI0 fun i j => .bl (g' i j)) ta tb tc) e P R := fun M H σ Q rs kp kr => by
  refine h M H σ _ rs (fun a x H1 pa e1 ra => ?_) kr
  obtain ⟨i, rfl, pa⟩ := pa
  refine pa M H1 σ _ (rs.mono e1) (fun b y H2 pb e2 rb => ?_) fun er H2 q e2 => kr er H2 q (e1.trans e2)
  obtain ⟨j, rfl, p1, p2⟩ := pb
  rw [ra.int, rb.int]
  refine ⟨i, j, rfl, rfl, g i j, rfl, ?_⟩
  cases hg : g i j with
  | true =>
    rw [if_pos rfl]
    refine p1 hg M H2 σ _ ((rs.mono e1).mono e2) (fun c z H3 pc e3 rc => ?_) fun er H3 q e3 => kr er H3 q ((e1.trans e2).trans e3)
    obtain ⟨k, rfl, pc⟩ := pc
    rw [rc.int]
    exact ⟨j, k, rfl, rfl, kp _ _ H3 pc ((e1.trans e2).trans e3) rp_bool⟩
  | false =>
    rw [if_neg (by decide)]
    exact kp _ _ H2 (p2 hg) (e1.trans e2) rp_bool
theorem vt_test {P : Bool → Prop} (h : Vl K ea W te e (fun d => ∃ b, d = .bool b ∧ P b) R) : Vt K ea W (tTest te) e P R := fun M H σ Q rs kp kr =>
  h M H σ _ rs (fun d v H1 p e1 r => by
    obtain ⟨b, rfl, p⟩ := p
    exact ⟨b, r.bool, kp b H1 p e1⟩) kr
theorem vt_B {P : Bool → Prop} (h : Vl K ea W te e (fun d => ∃ b, d = .bool b ∧ P b) R) : Vt K ea W (tB te) e P R := fun M H σ Q rs kp kr =>
  h M H σ _ rs (fun d v H1 p e1 r => by
    obtain ⟨b, rfl, p⟩ := p
    exact ⟨b, r.bool, kp b H1 p e1⟩) kr
theorem vt_not {t : TT} {P : Bool → Prop} (h : Vt K ea W t e (fun b => P (!b)) R) : Vt K ea W (tNot t) e P R := fun M H σ Q rs kp kr => h M H σ _ rs (fun b H1 p e1 => kp (!b) H1 p e1) kr
theorem vt_and {t u : TT} {P : Bool → Prop} (h : Vt K ea W t e (fun b => (b = true → Vt K ea W u e P R) ∧ (b = false → P false)) R) : Vt K ea W (tAnd t u) e P R := fun M H σ Q rs kp kr =>
  h M H σ _ rs (fun b H1 p e1 => by
    cases b with
    | true =>
      show u σ H1 Q
      exact p.1 rfl M H1 σ Q (rs.mono e1) (fun b H2 q e2 => kp b H2 q (e1.trans e2)) fun er H2 q e2 => kr er H2 q (e1.trans e2)
    | false =>
      show Q false H1
      exact kp _ H1 (p.2 rfl) e1) kr
theorem vt_or {t u : TT} {P : Bool → Prop} (h : Vt K ea W t e (fun b => (b = false → Vt K ea W u e P R) ∧ (b = true → P true)) R) : Vt K ea W (tOr t u) e P R := fun M H σ Q rs kp kr =>
  h M H σ _ rs (fun b H1 p e1 => by
    cases b with
    | false =>
      show u σ H1 Q
      exact p.1 rfl M H1 σ Q (rs.mono e1) (fun b H2 q e2 => kp b H2 q (e1.trans e2)) fun er H2 q e2 => kr er H2 q (e1.trans e2)
    | true =>
      show Q true H1
      exact kp _ H1 (p.2 rfl) e1) kr
/-- is None -/
def isN : PyData → Bool
  | .none => true
  | _ => false
theorem isN_v {H : Hp} {v : V} {d : PyData} (r : Rp K H v d) : decide (v = .non) = isN d := by
  rcases r with h | ⟨a, xs, ds, h1, h2, h3, h4⟩ | ⟨a, ns, h1, h2, h3⟩
  · cases h <;> rfl
  · subst h1 h2
    rfl
  · subst h1 h2
    rfl
theorem vl_isN (h : Vl K ea W te e (fun d => P (.bool (isN d))) R) : Vl K ea W (tIsN te) e P R := fun M H σ Q rs kp kr =>
  h M H σ _ rs (fun d v H1 p e1 r => by
    rw [isN_v r]
    exact kp _ _ H1 p e1 rp_bool) kr
theorem vl_notN (h : Vl K ea W te e (fun d => P (.bool (!isN d))) R) : Vl K ea W (tNotN te) e P R := fun M H σ Q rs kp kr =>
  h M H σ _ rs (fun d v H1 p e1 r => by
    rw [isN_v r]
    exact kp _ _ H1 p e1 rp_bool) kr
/-! ### argument lists, displays -/
theorem va_nil {P : List PyData → Prop} (p : P []) : Va K ea W tNil e P R := fun M H σ Q rs kp kr => kp [] [] H p (Ex.refl H) .nil
theorem va_cons {P : List PyData → Prop} {tr : TA} (h : Vl K ea W te e (fun d => Va K ea W tr e (fun ds => P (d :: ds)) R) R) : Va K ea W (tCons te tr) e P R := fun M H σ Q rs kp kr => by
  refine h M H σ _ rs (fun d v H1 pd e1 r => ?_) kr
  refine pd M H1 σ _ (rs.mono e1) (fun ds vs H2 p e2 r2 => ?_) fun er H2 q e2 => kr er H2 q (e1.trans e2)
  exact kp _ _ H2 p (e1.trans e2) (.cons (r.mono e2) r2)
theorem vl_tup {t : TA} (h : Va K ea W t e (fun ds => (∀ d ∈ ds, flat d = true) ∧ ds.length ≤ 100000 ∧ P (.tuple ds)) R) : Vl K ea W (tTup t) e P R := fun M H σ Q rs kp kr => by
  refine h M H σ _ rs (fun ds vs H1 p e1 r => ?_) kr
  obtain ⟨hf, hl, p⟩ := p
  refine ⟨by rw [r.length]; exact sz_of hl, fun q hq => ?_⟩
  exact kp _ _ _ p (e1.trans (Ex.new hq)) (rp_tup upd_same ((r.tp hf).mono (.of (Ex.new hq))))
theorem vn_lst {P : List PyData → Prop} {t : TA} (h : Va K ea W t e (fun ds => (∀ d ∈ ds, flat d = true) ∧ ds.length ≤ 100000 ∧ P ds) R) : Vn K ea W (tLst t) e P R := fun M H σ Q rs kp kr => by
  refine h M H σ _ rs (fun ds vs H1 p e1 r => ?_) kr
  obtain ⟨hf, hl, p⟩ := p
  refine ⟨by rw [r.length]; exact sz_of hl, fun q hq => ?_⟩
  exact kp _ _ _ _ p (e1.trans (Ex.new hq)) (fresh_back e1 hq) upd_same ((r.tp hf).mono (.of (Ex.new hq)))
/-- a new list is a list -/
theorem vl_vn (h : Vn K ea W te e (fun ds => P (.list ds)) R) : Vl K ea W te e P R := fun M H σ Q rs kp kr =>
  h M H σ Q rs (fun ds p xs H1 pd e1 _ h1 t => kp _ _ H1 pd e1 (rp_list h1 t)) kr
/-! ### calls -/
theorem vl_call {F : List PyData → Except Er PyData → Prop} {t : TA} (h : Va K ea W t e (fun ds => ∃ r, F ds r ∧ (∀ d, r = .ok d → P d) ∧ (∀ er, r = .error er → R er)) R) : Vl K ea W (tCallS (spF K ea F) (WE W) t) e P R := fun M H σ Q rs kp kr => by
  refine h M H σ _ rs (fun ds vs H1 p e1 ra => ?_) kr
  obtain ⟨r, hF, h1, h2⟩ := p
  exact ⟨ds, r, ra, hF, fun d v H2 q e2 rv => kp d v H2 (h1 d q) (e1.trans e2) rv, fun er H2 q e2 => kr er H2 (h2 er q) (e1.trans e2)⟩
theorem vn_call {F : List PyData → List PyData → Prop} {P : List PyData → Prop} {t : TA} (h : Va K ea W t e (fun ds => ∃ r, F ds r ∧ P r) R) : Vn K ea W (tCallS (spN K F) (WE W) t) e P R := fun M H σ Q rs kp kr => by
  refine h M H σ _ rs (fun ds vs H1 p e1 ra => ?_) kr
  obtain ⟨r, hF, p⟩ := p
  exact ⟨ds, r, ra, hF, fun p' xs H2 e2 hp h2 t2 => kp r p' xs H2 p (e1.trans e2) (fresh_back e1 hp) h2 t2⟩
/-! ### built-ins -/
abbrev rLen (K : PySem.W.Frag) : List V → Hp → VK → Prop := fun xs H Q => ∃ p ys, xs = [.ref p] ∧ (SqL K H p ys ∨ SqT K H p ys) ∧ Q (.int ys.length) H
abbrev rListOf (K : PySem.W.Frag) : List V → Hp → VK → Prop := fun xs H Q => ∃ p ys, xs = [.ref p] ∧ (SqL K H p ys ∨ SqT K H p ys) ∧ ∀ l, H l = none → Q (.ref l) (upd H l (.lst ys))
abbrev rTupOf (K : PySem.W.Frag) : List V → Hp → VK → Prop := fun xs H Q => ∃ p ys, xs = [.ref p] ∧ ((SqL K H p ys ∧ ∀ l, H l = none → Q (.ref l) (upd H l (.tup ys))) ∨ (SqT K H p ys ∧ Q (.ref p) H))
abbrev rInt1 : List V → Hp → VK → Prop := fun xs H Q => (∃ i, xs = [.int i] ∧ Q (.int i) H) ∨ ∃ k, xs = [.bl k] ∧ Q (.int (if k then 1 else 0)) H
abbrev rStrI : List V → Hp → VK → Prop := fun xs H Q => ∃ i : Int, xs = [.int i] ∧ i.natAbs.log2 < 1920 ∧ Q (.str (toString i)) H
abbrev rOrd : List V → Hp → VK → Prop := fun xs H Q => ∃ x : Str, xs = [.str x] ∧ x.length = 1 ∧ Q (.int (x.cps.getD 0 0 : Nat)) H
abbrev rMaxI : List V → Hp → VK → Prop := fun xs H Q => ∃ i j : Int, xs = [.int i, .int j] ∧ Q (.int (if j > i then j else i)) H
abbrev rMinI : List V → Hp → VK → Prop := fun xs H Q => ∃ i j : Int, xs = [.int i, .int j] ∧ Q (.int (if j < i then j else i)) H
abbrev rJoin (K : PySem.W.Frag) : V → List V → Hp → VK → Prop := fun x xs H Q => ∃ a p, ∃ ys : List Str, x = .str a ∧ xs = [.ref p] ∧ (SqL K H p (ys.map V.str) ∨ SqT K H p (ys.map V.str)) ∧ (ys.map (·.length)).sum + ys.length * a.length ≤ 16777216 ∧ Q (.str (Txt.join a ys)) H
theorem tC1 {te : TE} {σ : L2.St} {H : Hp} {Q : List V → Hp → Prop} (h : te σ H fun x H1 => Q [x] H1) : tCons te tNil σ H Q := h
theorem vl_len (h : Vl K ea W te e (fun d => (∃ ds, d = .list ds ∧ P (.int ds.length)) ∨ (∃ ds, d = .tuple ds ∧ P (.int ds.length)) ∨ ∃ ns, d = scr ns ∧ P (.int ns.length)) R) : Vl K ea W (tCB (rLen K) (tCons te tNil)) e P R := fun M H σ Q rs kp kr => by
  refine h M H σ _ rs (fun d v H1 p e1 r => ?_) kr
  rcases p with ⟨ds, rfl, p⟩ | ⟨ds, rfl, p⟩ | ⟨ns, rfl, p⟩
  · obtain ⟨a, xs, rfl, h1, h2⟩ := r.list
    exact ⟨a, xs, rfl, .inl (SqL.of h1), by rw [h2.length]; exact kp _ _ H1 p e1 rp_int⟩
  · obtain ⟨a, xs, rfl, h1, h2⟩ := r.tuple
    exact ⟨a, xs, rfl, .inr (SqT.of h1), by rw [h2.length]; exact kp _ _ H1 p e1 rp_int⟩
  · obtain ⟨a, rfl, h1⟩ := r.scr
    exact ⟨a, _, rfl, .inl h1, by rw [List.length_map]; exact kp _ _ H1 p e1 rp_int⟩
theorem vn_listOf {P : List PyData → Prop} (h : Vl K ea W te e (fun d => (∃ ds, d = .list ds ∧ P ds) ∨ ∃ ds, d = .tuple ds ∧ P ds) R) : Vn K ea W (tCB (rListOf K) (tCons te tNil)) e P R := fun M H σ Q rs kp kr => by
  refine h M H σ _ rs (fun d v H1 p e1 r => ?_) kr
  rcases p with ⟨ds, rfl, p⟩ | ⟨ds, rfl, p⟩
  · obtain ⟨a, xs, rfl, h1, h2⟩ := r.list
    exact ⟨a, xs, rfl, .inl (SqL.of h1), fun l hl => kp _ _ _ _ p (e1.trans (Ex.new hl)) (fresh_back e1 hl) upd_same (h2.mono (.of (Ex.new hl)))⟩
  · obtain ⟨a, xs, rfl, h1, h2⟩ := r.tuple
    exact ⟨a, xs, rfl, .inr (SqT.of h1), fun l hl => kp _ _ _ _ p (e1.trans (Ex.new hl)) (fresh_back e1 hl) upd_same (h2.mono (.of (Ex.new hl)))⟩
theorem vl_tupOf (h : Vl K ea W te e (fun d => (∃ ds, d = .list ds ∧ P (.tuple ds)) ∨ ∃ ds, d = .tuple ds ∧ P (.tuple ds)) R) : Vl K ea W (tCB (rTupOf K) (tCons te tNil)) e P R := fun M H σ Q rs kp kr => by
  refine h M H σ _ rs (fun d v H1 p e1 r => ?_) kr
  rcases p with ⟨ds, rfl, p⟩ | ⟨ds, rfl, p⟩
  · obtain ⟨a, xs, rfl, h1, h2⟩ := r.list
    exact ⟨a, xs, rfl, .inl ⟨SqL.of h1, fun l hl => kp _ _ _ p (e1.trans (Ex.new hl)) (rp_tup upd_same (h2.mono (.of (Ex.new hl))))⟩⟩
  · obtain ⟨a, xs, rfl, h1, h2⟩ := id r.tuple
    exact ⟨a, xs, rfl, .inr ⟨SqT.of h1, kp _ _ _ p e1 r⟩⟩
theorem vl_int1 (h : Vl K ea W te e (fun d => (∃ i, d = .int i ∧ P (.int i)) ∨ ∃ b, d = .bool b ∧ P (.int (if b then 1 else 0))) R) : Vl K ea W (tCB rInt1 (tCons te tNil)) e P R := fun M H σ Q rs kp kr => by
  refine h M H σ _ rs (fun d v H1 p e1 r => ?_) kr
  rcases p with ⟨i, rfl, p⟩ | ⟨b, rfl, p⟩
  · rw [r.int]
    exact .inl ⟨i, rfl, kp _ _ H1 p e1 rp_int⟩
  · rw [r.bool]
    exact .inr ⟨b, rfl, kp _ _ H1 p e1 rp_int⟩
theorem vl_strI (h : Vl K ea W te e (fun d => ∃ i : Int, d = .int i ∧ i.natAbs.log2 < 1920 ∧ P (.str (toString i))) R) : Vl K ea W (tCB rStrI (tCons te tNil)) e P R := fun M H σ Q rs kp kr => by
  refine h M H σ _ rs (fun d v H1 p e1 r => ?_) kr
  obtain ⟨i, rfl, h1, p⟩ := p
  rw [r.int]
  exact ⟨i, rfl, h1, kp _ _ H1 p e1 rp_str⟩
theorem vl_ord (h : Vl K ea W te e (fun d => ∃ c : Nat, d = .str ⟨#[c]⟩ ∧ P (.int c)) R) : Vl K ea W (tCB rOrd (tCons te tNil)) e P R := fun M H σ Q rs kp kr => by
  refine h M H σ _ rs (fun d v H1 p e1 r => ?_) kr
  obtain ⟨c, rfl, p⟩ := p
  rw [r.str]
  exact ⟨_, rfl, rfl, kp _ _ H1 p e1 rp_int⟩
theorem vl_max (h : Vl K ea W ta e (fun a => ∃ i, a = .int i ∧ Vl K ea W tb e (fun b => ∃ j, b = .int j ∧ P (.int (if j > i then j else i))) R) R) : Vl K ea W (tCB rMaxI (tCons ta (tCons tb tNil))) e P R := fun M H σ Q rs kp kr => by
  refine h M H σ _ rs (fun d v H1 p e1 r => ?_) kr
  obtain ⟨i, rfl, p⟩ := p
  refine p M H1 σ _ (rs.mono e1) (fun b y H2 p e2 r2 => ?_) fun er H2 q e2 => kr er H2 q (e1.trans e2)
  obtain ⟨j, rfl, p⟩ := p
  rw [r.int, r2.int]
  exact ⟨i, j, rfl, kp _ _ H2 p (e1.trans e2) rp_int⟩
theorem vl_min (h : Vl K ea W ta e (fun a => ∃ i, a = .int i ∧ Vl K ea W tb e (fun b => ∃ j, b = .int j ∧ P (.int (if j < i then j else i))) R) R) : Vl K ea W (tCB rMinI (tCons ta (tCons tb tNil))) e P R := fun M H σ Q rs kp kr => by
  refine h M H σ _ rs (fun d v H1 p e1 r => ?_) kr
  obtain ⟨i, rfl, p⟩ := p
  refine p M H1 σ _ (rs.mono e1) (fun b y H2 p e2 r2 => ?_) fun er H2 q e2 => kr er H2 q (e1.trans e2)
  obtain ⟨j, rfl, p⟩ := p
  rw [r.int, r2.int]
  exact ⟨i, j, rfl, kp _ _ H2 p (e1.trans e2) rp_int⟩
theorem vl_all (h : Vl K ea W te e (fun d => ∃ bs : List Bool, d = .list (bs.map .bool) ∧ P (.bool (bs.all id))) R) : Vl K ea W (tCB (rAll K) (tCons te tNil)) e P R := fun M H σ Q rs kp kr => by
  refine h M H σ _ rs (fun d v H1 p e1 r => ?_) kr
  obtain ⟨bs, rfl, p⟩ := p
  obtain ⟨a, xs, rfl, h1, h2⟩ := r.list
  have q := h2.bools
  subst q
  exact ⟨a, bs, rfl, SqL.of h1, kp _ _ H1 p e1 rp_bool⟩
theorem vl_join (h : Vl K ea W ta e (fun a => ∃ z, a = .str z ∧ Vl K ea W tb e (fun b => ∃ ys : List Str, b = .list (ys.map .str) ∧ (ys.map (·.length)).sum + ys.length * z.length ≤ 16777216 ∧ P (.str (Txt.join z ys))) R) R) : Vl K ea W (tBM K "str" (rJoin K) ta (tCons tb tNil)) e P R := fun M H σ Q rs kp kr => by
  refine h M H σ _ rs (fun d v H1 p e1 r => ?_) kr
  obtain ⟨z, rfl, p⟩ := p
  rw [r.str]
  refine ⟨rfl, ?_⟩
  refine p M H1 σ _ (rs.mono e1) (fun b y H2 p e2 r2 => ?_) fun er H2 q e2 => kr er H2 q (e1.trans e2)
  obtain ⟨ys, rfl, hz, p⟩ := p
  obtain ⟨a, xs, rfl, h1, h2⟩ := r2.list
  have q := h2.strs
  subst q
  exact ⟨z, a, ys, rfl, rfl, .inl (SqL.of h1), hz, kp _ _ H2 p (e1.trans e2) rp_str⟩
/-- isinstance(x, bool) of an int -/
theorem vl_isb (hk : PySem.W.kitOne K (.type "int") (.type "bool") = some false) (h : Vl K ea W te e (fun d => ∃ i, d = .int i ∧ P (.bool false)) R) : Vl K ea W (tCB (rIsi K) (tCons te (tCons (tC (.ty "bool")) tNil))) e P R := fun M H σ Q rs kp kr => by
  refine h M H σ _ rs (fun d v H1 p e1 r => ?_) kr
  obtain ⟨i, rfl, p⟩ := p
  rw [r.int]
  exact ⟨.int i, .ty "bool", .type "int", .type "bool", false, rfl, .ty "bool", .base (.int i), hk, kp _ _ H1 p e1 rp_bool⟩
/-! ### texts, lists -/
theorem op_addS {x y : Str} (hz : x.length + y.length ≤ 100000) (p : P (.str (x ++ y))) : Op K (fun x y H Q => ∃ i j, x = .str i ∧ y = .str j ∧ i.length + j.length ≤ sizeLine ∧ Q (.str (i ++ j)) H) (.str x) (.str y) P := fun H u v Q ra rb kp => by
  rw [ra.str, rb.str]
  exact ⟨x, y, rfl, rfl, sz_of hz, kp _ _ H p (Ex.refl H) rp_str⟩
theorem vn_cat {P : List PyData → Prop} (h : Vl K ea W ta e (fun a => ∃ xs, a = .list xs ∧ Vl K ea W tb e (fun b => ∃ ys, b = .list ys ∧ xs.length + ys.length ≤ 100000 ∧ P (xs ++ ys)) R) R) : Vn K ea W (tOp rCat ta tb) e P R := fun M H σ Q rs kp kr => by
  refine h M H σ _ rs (fun d v H1 p e1 r => ?_) kr
  obtain ⟨xs, rfl, p⟩ := p
  refine p M H1 σ _ (rs.mono e1) (fun b y H2 p e2 r2 => ?_) fun er H2 q e2 => kr er H2 q (e1.trans e2)
  obtain ⟨ys, rfl, hz, p⟩ := p
  obtain ⟨a, us, rfl, h1, h2⟩ := (r.mono e2).list
  obtain ⟨b, ws, rfl, h3, h4⟩ := r2.list
  exact ⟨a, b, us, ws, rfl, rfl, h1, h3, by rw [h2.length, h4.length]; exact sz_of hz, fun q hq => kp _ _ _ _ p ((e1.trans e2).trans (Ex.new hq)) (fresh_back (e1.trans e2) hq) upd_same ((h2.append h4).mono (.of (Ex.new hq)))⟩
/-! ### slices -/
theorem vo_none {P : Option Int → Prop} (p : P none) : Vo K ea W tNoPart e P R := fun M H σ Q rs kp kr => kp _ H p (Ex.refl H)
theorem vo_some {P : Option Int → Prop} (h : Vl K ea W te e (fun d => ∃ i, d = .int i ∧ P (some i)) R) : Vo K ea W (tPart te) e P R := fun M H σ Q rs kp kr =>
  h M H σ _ rs (fun d v H1 p e1 r => by
    obtain ⟨i, rfl, p⟩ := p
    exact ⟨i, r.int, kp _ H1 p e1⟩) kr
def cutD (xs : List PyData) (lo hi : Option Int) : List PyData := (xs.drop (HT.sIx xs.length 0 lo)).take (HT.sIx xs.length xs.length hi - HT.sIx xs.length 0 lo)
theorem cutD_tpa {H : Hp} {vs : List V} {ds : List PyData} (t : TpA H vs ds) (lo hi : Option Int) : TpA H (cutV vs lo hi) (cutD ds lo hi) := by
  unfold cutV cutD
  rw [t.length]
  exact (t.drop _).take _
theorem vn_slL {P : List PyData → Prop} {tl th : TO} (h : Vl K ea W te e (fun d => ∃ xs, d = .list xs ∧ Vo K ea W tl e (fun lo => Vo K ea W th e (fun hi => P (cutD xs lo hi)) R) R) R) : Vn K ea W (tSl (rSlL K) te tl th) e P R := fun M H σ Q rs kp kr => by
  refine h M H σ _ rs (fun d v H1 p e1 r => ?_) kr
  obtain ⟨xs, rfl, p⟩ := p
  refine p M H1 σ _ (rs.mono e1) (fun lo H2 p e2 => ?_) fun er H2 q e2 => kr er H2 q (e1.trans e2)
  refine p M H2 σ _ ((rs.mono e1).mono e2) (fun hi H3 p e3 => ?_) fun er H3 q e3 => kr er H3 q ((e1.trans e2).trans e3)
  obtain ⟨a, us, rfl, h1, h2⟩ := (r.mono (e2.trans e3)).list
  have e4 := (e1.trans e2).trans e3
  exact ⟨a, us, rfl, SqL.of h1, fun q hq => kp _ _ _ _ p (e4.trans (Ex.new hq)) (fresh_back e4 hq) upd_same ((cutD_tpa h2 lo hi).mono (.of (Ex.new hq)))⟩
theorem vl_slT {tl th : TO} (h : Vl K ea W te e (fun d => ∃ xs, d = .tuple xs ∧ Vo K ea W tl e (fun lo => Vo K ea W th e (fun hi => P (.tuple (cutD xs lo hi))) R) R) R) : Vl K ea W (tSl (rSlA K) te tl th) e P R := fun M H σ Q rs kp kr => by
  refine h M H σ _ rs (fun d v H1 p e1 r => ?_) kr
  obtain ⟨xs, rfl, p⟩ := p
  refine p M H1 σ _ (rs.mono e1) (fun lo H2 p e2 => ?_) fun er H2 q e2 => kr er H2 q (e1.trans e2)
  refine p M H2 σ _ ((rs.mono e1).mono e2) (fun hi H3 p e3 => ?_) fun er H3 q e3 => kr er H3 q ((e1.trans e2).trans e3)
  obtain ⟨a, us, rfl, h1, h2⟩ := (r.mono (e2.trans e3)).tuple
  have e4 := (e1.trans e2).trans e3
  refine ⟨a, us, rfl, SqT.of h1, fun z => ?_, fun z q hq => ?_⟩
  · have c : cutD xs lo hi = xs := by
      unfold cutD
      rw [← h2.length, z.1, z.2]
      rw [Nat.sub_zero, List.drop_zero, h2.length]
      exact List.take_length
    have p' : P (.tuple (cutD xs lo hi)) := p
    rw [c] at p'
    exact kp _ _ H3 p' e4 (rp_tup h1 h2)
  · exact kp _ _ _ p (e4.trans (Ex.new hq)) (rp_tup upd_same ((cutD_tpa h2 lo hi).mono (.of (Ex.new hq))))
end
end Fw
set_option Elab.async false
set_option linter.all false
set_option autoImplicit false
set_option maxRecDepth 100000
set_option maxHeartbeats 1000000
/-! Fw3: targets, statements, loops, comprehensions, defs. -/
namespace Fw
open PySem PySem.Spec PyProof.Rows L2 Evl
theorem Tp.fl {H : Hp} {v : V} {d : PyData} (h : Tp H v d) : flat d = true := by cases h <;> rfl
/-! ### targets -/
def Ga (K : PySem.W.Frag) (g : TG) (d : PyData) (e : En) (P : En → Prop) : Prop := ∀ (M H : Hp) (σ : L2.St) (v : V) (Q : L2.St → Hp → Prop), RSM K M H σ e → Rp K H v d →
  (∀ e' M' σ', P e' → Ex M M' → RSM K M' H σ' e' → Q σ' H) → g v σ H Q
def Gs (K : PySem.W.Frag) (g : TGs) (ds : List PyData) (e : En) (P : En → Prop) : Prop := ∀ (M H : Hp) (σ : L2.St) (vs : List V) (Q : L2.St → Hp → Prop), RSM K M H σ e → TpA H vs ds →
  (∀ e' M' σ', P e' → Ex M M' → RSM K M' H σ' e' → Q σ' H) → g vs σ H Q
section
variable {K : PySem.W.Frag} {e : En} {P : En → Prop}
theorem RSM.take {M H : Hp} {σ : L2.St} {v : V} {d : PyData} (h : RSM K M H σ e) (r : Rp K H v d) (hf : flat d = true ∨ e.o = none) : ∃ M', Ex M M' ∧ RSM K M' H σ e ∧ Rp K M' v d := by
  obtain ⟨M', x1, h1, t1, n1, _⟩ := h.grow
  refine ⟨M', x1, h1, ?_⟩
  rcases hf with hf | hf
  · exact .inl ((r.flat hf).mono t1)
  · rw [n1 hf]; exact r
theorem ga_name {i : Nat} {d : PyData} (hf : flat d = true ∨ e.o = none) (p : P (e.set i d)) : Ga K (gName i) d e P := fun M H σ v Q rs r k => by
  obtain ⟨M', x1, h1, r1⟩ := rs.take r hf
  exact k _ M' _ p x1 (h1.put r1)
theorem gs_nil (p : P e) : Gs K gNil [] e P := fun M H σ vs Q rs t k => by
  cases t
  exact ⟨rfl, k _ M _ p (Ex.refl M) rs⟩
theorem gs_name {i : Nat} {d : PyData} {ds : List PyData} {u : TGs} (h : Gs K u ds (e.set i d) P) : Gs K (gCons (gName i) u) (d :: ds) e P := fun M H σ vs Q rs t k => by
  cases t with
  | cons a t =>
    obtain ⟨M', x1, h1, r1⟩ := rs.take (.inl a) (.inl a.fl)
    exact ⟨_, _, rfl, h M' H _ _ Q (h1.put r1) t fun e' M2 σ' p x2 r2 => k e' M2 σ' p (x1.trans x2) r2⟩
theorem ga_tup {n : Nat} {ds : List PyData} {u : TGs} (hn : ds.length = n) (h : Gs K u ds e P) : Ga K (gTup K n u) (.tuple ds) e P := fun M H σ v Q rs r k => by
  obtain ⟨a, xs, rfl, h1, h2⟩ := r.tuple
  exact ⟨a, xs, rfl, SqT.of h1, by rw [h2.length, hn], h M H σ xs Q rs h2 k⟩
end
/-! ### statements -/
structure AE where
  nx : En → Prop
  rt : PyData → Prop := fun _ => False
  rl : List PyData → Prop := fun _ => False
  bk : En → Prop := fun _ => False
  ct : En → Prop := fun _ => False
  er : Er → Prop := fun _ => False
/-- what is wanted behind a statement, over the heap and over data -/
structure Lk (K : PySem.W.Frag) (ea : Er → Addr) (W : WX) (B : Hp) (D : Ends) (A : AE) : Prop where
  nx : ∀ e σ H, A.nx e → RS K B H σ e → D.nx σ H
  bk : ∀ e σ H, A.bk e → RS K B H σ e → D.bk σ H
  ct : ∀ e σ H, A.ct e → RS K B H σ e → D.ct σ H
  rt : ∀ d v H, A.rt d → Ex B H → Rp K H v d → D.rt v H
  rl : ∀ ds p xs H, A.rl ds → Ex B H → B p = none → H p = some (.lst xs) → TpA H xs ds → D.rt (.ref p) H
  er : ∀ er σ H, A.er er → Ex B H → W (.ref (ea er)) none σ H
def Sa (K : PySem.W.Frag) (ea : Er → Addr) (W : WX) (ts : TS) (e : En) (A : AE) : Prop := ∀ (B H : Hp) (σ : L2.St) (D : Ends), RS K B H σ e → Lk K ea W B D A → ts D σ H
section
variable {K : PySem.W.Frag} {ea : Er → Addr} {W : WX} {e : En} {A : AE} {t u : TS} {te : TE}
theorem Lk.kr {B H : Hp} {D : Ends} {σ : L2.St} (lk : Lk K ea W B D A) (x : Ex B H) : ∀ er H', A.er er → Ex H H' → W (.ref (ea er)) none σ H' := fun er H' q e' => lk.er er σ H' q (x.trans e')
theorem sa_seq (h : Sa K ea W t e { A with nx := fun e' => Sa K ea W u e' A }) : Sa K ea W (tSeq t u) e A := fun B H σ D rs lk => by
  show t { D with nx := u D } σ H
  exact h B H σ _ rs ⟨fun e' σ' H' s rs' => s B H' σ' D rs' lk, lk.bk, lk.ct, lk.rt, lk.rl, lk.er⟩
theorem sa_next (p : A.nx e) : Sa K ea W tNext e A := fun B H σ D rs lk => lk.nx e σ H p rs
theorem sa_break (p : A.bk e) : Sa K ea W tBreak e A := fun B H σ D rs lk => lk.bk e σ H p rs
theorem sa_asg {g : TG} (h : Vl K ea W te e (fun d => Ga K g d e A.nx) A.er) : Sa K ea W (tAsg te g) e A := fun B H σ D rs lk => by
  obtain ⟨M, x, rs⟩ := rs
  refine h M H σ _ rs (fun d v H1 p e1 r => ?_) (lk.kr (x.trans rs.ex))
  exact p M H1 σ v D.nx (rs.mono e1) r fun e' M' σ' q x' r' => lk.nx e' σ' H1 q (r'.rs (x.trans x'))
/-- a new list, not to be built on -/
theorem sa_asgN {i : Nat} (h : Vn K ea W te e (fun ds => A.nx (e.set i (.list ds))) A.er) : Sa K ea W (tAsg te (gName i)) e A := fun B H σ D rs lk => by
  obtain ⟨M, x, rs⟩ := rs
  refine h M H σ _ rs (fun ds p xs H1 q e1 hp h1 t1 => ?_) (lk.kr (x.trans rs.ex))
  obtain ⟨M', x1, r1, t2, _, k1⟩ := (rs.mono e1).grow
  have hM : M' p = some (.lst xs) := k1 p _ h1 fun j es ho hz => by
    obtain ⟨a, ys, g1, _, g3, _⟩ := rs.own j es ho
    rw [g1] at hz
    have hz' : a = p := by injection hz with hz; injection hz with hz; injection hz
    rw [hz', hp] at g3
    cases g3
  exact lk.nx _ _ H1 q ((r1.put (i := i) (rp_list hM (t1.mono t2))).rs (x.trans x1))
/-- a new list, to be built on -/
theorem sa_asgO {i : Nat} (hi : i < e.ρ.length) (h : Vn K ea W te e (fun ds => A.nx (e.setO i ds)) A.er) : Sa K ea W (tAsg te (gName i)) e A := fun B H σ D rs lk => by
  obtain ⟨M, x, rs⟩ := rs
  refine h M H σ _ rs (fun ds p xs H1 q e1 hp h1 t1 => ?_) (lk.kr (x.trans rs.ex))
  obtain ⟨M', x1, r1, t2, _, k1⟩ := (rs.mono e1).grow
  have nM : M p = none := by
    cases z : M p with
    | none => rfl
    | some o => rw [rs.ex p o z] at hp; cases hp
  have x2 : Ex M (fun b => if b = p then none else M' b) := fun b o z => by
    have ne : b ≠ p := fun w => by rw [w, nM] at z; cases z
    show (if b = p then none else M' b) = some o
    rw [if_neg ne]
    exact x1 b o z
  have x3 : Ex (fun b => if b = p then none else M' b) M' := fun b o z => by
    have z' : (if b = p then none else M' b) = some o := z
    by_cases w : b = p
    · rw [if_pos w] at z'; cases z'
    · rw [if_neg w] at z'; exact z'
  have t3 : Et H1 (fun b => if b = p then none else M' b) := fun b ys z => by
    have ne : b ≠ p := fun w => by rw [w, h1] at z; cases z
    show (if b = p then none else M' b) = some (.tup ys)
    rw [if_neg ne]
    exact t2 b ys z
  have rs2 : RSM K (fun b => if b = p then none else M' b) H1 σ ⟨e.ρ, none⟩ := ⟨x3.trans r1.ex, rs.len, fun i d z => let ⟨v, g1, g2⟩ := rs.val i d z; ⟨v, g1, g2.mono x2⟩, fun _ _ z => (by cases z)⟩
  exact lk.nx (e.setO i ds) _ H1 q ((rs2.putO (i := i) hi (if_pos rfl) h1 (t1.mono t3)).rs (x.trans x2))
theorem sa_drop (h : Vl K ea W te e (fun _ => A.nx e) A.er) : Sa K ea W (tDrop te) e A := fun B H σ D rs lk => by
  obtain ⟨M, x, rs⟩ := rs
  exact h M H σ _ rs (fun d v H1 p e1 r => lk.nx e σ H1 p ((rs.mono e1).rs x)) (lk.kr (x.trans rs.ex))
theorem sa_ret (h : Vl K ea W te e A.rt A.er) : Sa K ea W (tRet te) e A := fun B H σ D rs lk => by
  obtain ⟨M, x, rs⟩ := rs
  exact h M H σ _ rs (fun d v H1 p e1 r => lk.rt d v H1 p ((x.trans rs.ex).trans e1) r) (lk.kr (x.trans rs.ex))
theorem sa_retL (h : Vn K ea W te e A.rl A.er) : Sa K ea W (tRet te) e A := fun B H σ D rs lk => by
  obtain ⟨M, x, rs⟩ := rs
  exact h M H σ _ rs (fun ds p xs H1 q e1 hp h1 t1 => lk.rl ds p xs H1 q ((x.trans rs.ex).trans e1) (fresh_back (x.trans rs.ex) hp) h1 t1) (lk.kr (x.trans rs.ex))
theorem sa_retO {j : Nat} {ds : List PyData} (ho : e.o = some (j, ds)) (p : A.rl ds) : Sa K ea W (tRet (tVar j)) e A := fun B H σ D rs lk => by
  obtain ⟨M, x, rs⟩ := rs
  obtain ⟨a, xs, h1, h2, h3, h4⟩ := rs.own j ds ho
  refine ⟨_, h1, lk.rl ds a xs H p (x.trans rs.ex) ?_ h3 (h4.mono (.of rs.ex))⟩
  cases z : B a with
  | none => rfl
  | some o => rw [x a o z] at h2; cases h2
theorem sa_if {tc : TT} (h : Vt K ea W tc e (fun b => (b = true → Sa K ea W t e A) ∧ (b = false → Sa K ea W u e A)) A.er) : Sa K ea W (tIfS tc t u) e A := fun B H σ D rs lk => by
  obtain ⟨M, x, rs⟩ := rs
  refine h M H σ _ rs (fun b H1 p e1 => ?_) (lk.kr (x.trans rs.ex))
  cases b with
  | true =>
    rw [if_pos rfl]
    exact p.1 rfl B H1 σ D ((rs.mono e1).rs x) lk
  | false =>
    rw [if_neg Bool.false_ne_true]
    exact p.2 rfl B H1 σ D ((rs.mono e1).rs x) lk
/-- raise C('..') -/
def tRse (W : WX) (C : Addr) : TS := fun _ σ H => W (.ref C) none σ H
theorem sa_raise {er : Er} (p : A.er er) : Sa K ea W (tRse W (ea er)) e A := fun B H σ D rs lk => lk.er er σ H p rs.ex
/-- xs.append(e), xs the list that is being built -/
theorem sa_append {j : Nat} {ds : List PyData} (ho : e.o = some (j, ds)) (hl : ds.length < 100000) (h : Vl K ea W te e (fun d => flat d = true ∧ A.nx ⟨e.ρ, some (j, ds ++ [d])⟩) A.er) : Sa K ea W (tDrop (tBM K "list" rAppend (tVar j) (tCons te tNil))) e A := fun B H σ D rs lk => by
  obtain ⟨M, x, rs⟩ := rs
  obtain ⟨a, xs, h1, h2, h3, h4⟩ := rs.own j ds ho
  refine ⟨_, h1, .inl ⟨rfl, _, SqL.of h3⟩, ?_⟩
  refine h M H σ _ rs (fun d v H1 p e1 r => ?_) (lk.kr (x.trans rs.ex))
  obtain ⟨hf, p⟩ := p
  have h31 := e1 _ _ h3
  refine ⟨a, xs, v, rfl, rfl, h31, by rw [h4.length]; exact sz_lt hl, ?_⟩
  obtain ⟨M', x1, r1, t2, _, _⟩ := (rs.mono e1).grow
  obtain ⟨a', xs', g1, g2, g3, g4⟩ := r1.own j ds ho
  rw [h1] at g1
  have ea' : a = a' := by injection g1 with g1; injection g1 with g1; injection g1
  subst ea'
  rw [h31] at g3
  cases g3
  have et : Et H1 (upd H1 a (.lst (xs ++ [v]))) := Et.updL h31
  have ex2 : Ex M' (upd H1 a (.lst (xs ++ [v]))) := fun b o z => by
    have ne : b ≠ a := fun w => by rw [w, g2] at z; cases z
    rw [upd_ne ne]
    exact r1.ex b o z
  refine lk.nx _ σ _ p (⟨M', x.trans x1, ex2, r1.len, r1.val, fun j' ds' z => ?_⟩)
  cases z
  exact ⟨a, _, h1, g2, upd_same, g4.append (.one ((r.flat hf).mono t2))⟩
/-- xs[i] = e, xs the list that is being built -/
theorem sa_setitem {j : Nat} {ds : List PyData} {ti : TE} (ho : e.o = some (j, ds)) (h : Vl K ea W te e (fun d => flat d = true ∧ Vl K ea W ti e (fun a => ∃ (i : Int) (k : Nat), a = .int i ∧ ixN ds.length i = some k ∧ A.nx ⟨e.ρ, some (j, ds.set k d)⟩) A.er) A.er) : Sa K ea W (tAsg te (gSub (tVar j) ti rSetL)) e A := fun B H σ D rs lk => by
  obtain ⟨M, x, rs⟩ := rs
  obtain ⟨a, xs, h1, h2, h3, h4⟩ := rs.own j ds ho
  refine h M H σ _ rs (fun d v H1 p e1 r => ?_) (lk.kr (x.trans rs.ex))
  obtain ⟨hf, p⟩ := p
  refine ⟨_, h1, ?_⟩
  refine p M H1 σ _ (rs.mono e1) (fun b y H2 p e2 r2 => ?_) (lk.kr ((x.trans rs.ex).trans e1))
  obtain ⟨i, k, rfl, hk, p⟩ := p
  rw [r2.int]
  have h32 := (e1.trans e2) _ _ h3
  refine ⟨a, xs, i, k, rfl, rfl, h32, by rw [h4.length]; exact hk, ?_⟩
  obtain ⟨M', x1, r1, t2, _, _⟩ := (rs.mono (e1.trans e2)).grow
  obtain ⟨a', xs', g1, g2, g3, g4⟩ := r1.own j ds ho
  rw [h1] at g1
  have ea' : a = a' := by injection g1 with g1; injection g1 with g1; injection g1
  subst ea'
  rw [h32] at g3
  cases g3
  have ex2 : Ex M' (upd H2 a (.lst (xs.set k v))) := fun b o z => by
    have ne : b ≠ a := fun w => by rw [w, g2] at z; cases z
    rw [upd_ne ne]
    exact r1.ex b o z
  refine lk.nx _ σ _ p (⟨M', x.trans x1, ex2, r1.len, r1.val, fun j' ds' z => ?_⟩)
  cases z
  exact ⟨a, _, h1, g2, upd_same, g4.set (((r.flat hf).mono (.of e2)).mono t2) k⟩
/-- from here on the list stays as it is -/
theorem sa_freeze {j : Nat} {ds : List PyData} (ho : e.o = some (j, ds)) (hj : j < e.ρ.length) (h : Sa K ea W t ⟨e.ρ.set j (some (.list ds)), none⟩ A) : Sa K ea W t e A := fun B H σ D rs lk => by
  obtain ⟨M, x, rs⟩ := rs
  obtain ⟨M', x1, r1⟩ := rs.freeze ho hj
  exact h B H σ D ⟨M', x.trans x1, r1⟩ lk
theorem sa_imp {A' : AE} (h : Sa K ea W t e A) (k1 : ∀ e, A.nx e → A'.nx e) (k2 : ∀ e, A.rt e → A'.rt e) (k3 : ∀ e, A.rl e → A'.rl e) (k4 : ∀ e, A.bk e → A'.bk e) (k5 : ∀ e, A.ct e → A'.ct e) (k6 : ∀ e, A.er e → A'.er e) : Sa K ea W t e A' := fun B H σ D rs lk =>
  h B H σ D rs ⟨fun e σ H p => lk.nx e σ H (k1 e p), fun e σ H p => lk.bk e σ H (k4 e p), fun e σ H p => lk.ct e σ H (k5 e p), fun e v H p => lk.rt e v H (k2 e p), fun e p xs H q => lk.rl e p xs H (k3 e q), fun e σ H p => lk.er e σ H (k6 e p)⟩
/-! ### loops -/
theorem sa_while {tc : TT} (I : Nat → En → Prop) (m0 : Nat) (h0 : I m0 e) (hs : ∀ m e', I m e' → Vt K ea W tc e' (fun b => (b = true → Sa K ea W t e' { A with nx := fun e2 => ∃ m', m' < m ∧ I m' e2, ct := fun e2 => ∃ m', m' < m ∧ I m' e2, bk := A.nx }) ∧ (b = false → A.nx e')) A.er) : Sa K ea W (tWhile tc t) e A := fun B H σ D rs lk => by
  refine ⟨fun m σ' H' => ∃ e', I m e' ∧ RS K B H' σ' e', ⟨m0, e, h0, rs⟩, ?_⟩
  rintro m σ' H' ⟨e', hi, rs'⟩
  obtain ⟨M, x, rs'⟩ := rs'
  refine hs m e' hi M H' σ' _ rs' (fun b H1 p e1 => ?_) (lk.kr (x.trans rs'.ex))
  cases b with
  | true =>
    rw [if_pos rfl]
    refine ⟨fun σ2 H2 => ∃ e2, (∃ m', m' < m ∧ I m' e2) ∧ RS K B H2 σ2 e2, fun σ2 H2 ⟨e2, ⟨m', l, i2⟩, r2⟩ => ⟨m', l, e2, i2, r2⟩, ?_⟩
    exact p.1 rfl B H1 σ' _ ((rs'.mono e1).rs x) ⟨fun e2 σ2 H2 q r => ⟨e2, q, r⟩, lk.nx, fun e2 σ2 H2 q r => ⟨e2, q, r⟩, lk.rt, lk.rl, lk.er⟩
  | false =>
    rw [if_neg Bool.false_ne_true]
    exact lk.nx e' σ' H1 (p.2 rfl) ((rs'.mono e1).rs x)
/-- what an iterator gives: these data, one after another, while M stands -/
def JOk (K : PySem.W.Frag) (J : It) (M : Hp) (ds : List PyData) : Prop := ∀ H, Ex M H → (∀ i, i < ds.length → J.go i H) ∧ (∀ (i : Nat) x H' d, ds[i]? = some d → J.yld i H x H' → Ex H H' ∧ Rp K H' x d) ∧ (∀ i, ds.length ≤ i → J.stop i H)
def Iw (K : PySem.W.Frag) (ea : Er → Addr) (W : WX) (wi : TI) (e : En) (P : List PyData → Prop) (R : Er → Prop) : Prop := ∀ (M H : Hp) (σ : L2.St) (Rk : It → Hp → Prop), RSM K M H σ e →
  (∀ ds J H1 M1, P ds → Ex H H1 → Ex M M1 → RSM K M1 H1 σ e → JOk K J M1 ds → Rk J H1) → (∀ er H', R er → Ex H H' → W (.ref (ea er)) none σ H') → wi σ H Rk
theorem sa_for {wi : TI} {g : TG} (h : Iw K ea W wi e (fun ds => ∃ I : Nat → En → Prop, I 0 e ∧ (∀ (i : Nat) d e', ds[i]? = some d → I i e' → Ga K g d e' (fun e2 => Sa K ea W t e2 { A with nx := I (i + 1), ct := I (i + 1), bk := A.nx })) ∧ (∀ e', I ds.length e' → A.nx e')) A.er) : Sa K ea W (tFor wi g t) e A := fun B H σ D rs lk => by
  obtain ⟨M, x, rs⟩ := rs
  refine h M H σ _ rs (fun ds J H1 M1 p e1 x1 r1 jk => ?_) (lk.kr (x.trans rs.ex))
  obtain ⟨I, i0, hs, hd⟩ := p
  have lkD : ∀ {N : L2.St → Hp → Prop} {i : Nat}, (∀ e2 σ2 H2, I (i + 1) e2 → RS K M1 H2 σ2 e2 → N σ2 H2) → Lk K ea W M1 { D with nx := N, ct := N, bk := D.nx } { A with nx := I (i + 1), ct := I (i + 1), bk := A.nx } := fun {N i} hN =>
    ⟨hN, fun e2 σ2 H2 q r => lk.nx e2 σ2 H2 q (r.down (x.trans x1)), hN, fun d v H2 q z r => lk.rt d v H2 q ((x.trans x1).trans z) r, fun ds p xs H2 q z n h2 t2 => lk.rl ds p xs H2 q ((x.trans x1).trans z) (fresh_back (x.trans x1) n) h2 t2, fun er σ2 H2 q z => lk.er er σ2 H2 q ((x.trans x1).trans z)⟩
  refine ⟨fun i m σ' H' => m = ds.length - i ∧ i ≤ ds.length ∧ ∃ e', I i e' ∧ RS K M1 H' σ' e', ⟨ds.length, by simp, Nat.zero_le _, e, i0, r1.rs (Ex.refl M1)⟩, ?_⟩
  rintro i m σ' H' ⟨rfl, hi, e', ie, M2, x2, r2⟩
  obtain ⟨j1, j2, j3⟩ := jk H' (x2.trans r2.ex)
  by_cases hlt : i < ds.length
  · refine .inr ⟨j1 i hlt, fun σ2 H2 => ∃ e2, I (i + 1) e2 ∧ RS K M1 H2 σ2 e2, fun σ2 H2 ⟨e2, i2, rr⟩ => ⟨ds.length - (i + 1), by omega, rfl, hlt, e2, i2, rr⟩, fun v H2 hy => ?_⟩
    obtain ⟨y1, y2⟩ := j2 i v H2 ds[i] (List.getElem?_eq_getElem hlt) hy
    refine hs i ds[i] e' (List.getElem?_eq_getElem hlt) ie M2 H2 σ' v _ (r2.mono y1) y2 fun e3 M3 σ3 q x3 r3 => ?_
    exact q M1 H2 σ3 _ (r3.rs (x2.trans x3)) (lkD fun e2 σ2 H2 i2 rr => ⟨e2, i2, rr⟩)
  · have ei : i = ds.length := by omega
    subst ei
    exact .inl ⟨j3 _ (Nat.le_refl _), lk.nx e' σ' H' (hd e' ie) (RS.down ⟨M2, x2, r2⟩ (x.trans x1))⟩
section
variable {P : List PyData → Prop} {R : Er → Prop}
theorem iw_range {ta : TE} (h : Vl K ea W ta e (fun d => ∃ n : Int, d = .int n ∧ -(2 ^ 62) ≤ n ∧ n < 2 ^ 62 ∧ P ((List.range n.toNat).map fun k => .int (k : Nat))) R) : Iw K ea W (iRng1 (tCons ta tNil)) e P R := fun M H σ Rk rs k kr => by
  refine h M H σ _ rs (fun d v H1 p e1 r => ?_) kr
  obtain ⟨n, rfl, h1, h2, p⟩ := p
  rw [r.int]
  refine ⟨n, rfl, h1, h2, k _ _ H1 M p e1 (Ex.refl M) (rs.mono e1) fun H2 _ => ⟨fun i hi => ?_, fun i x H' d hd hy => ?_, fun i hi => ?_⟩⟩
  · show i < n.toNat
    simpa using hi
  · obtain ⟨rfl, rfl⟩ := hy
    refine ⟨Ex.refl _, ?_⟩
    rw [List.getElem?_map] at hd
    cases q : (List.range n.toNat)[i]? with
    | none => rw [q] at hd; cases hd
    | some j =>
      rw [q] at hd
      have hij : i = j := by
        obtain ⟨hl, hv⟩ := List.getElem?_eq_some_iff.mp q
        simpa using hv
      subst hij
      have hd' : PyData.int (i : Nat) = d := Option.some.inj hd
      rw [← hd', Int.zero_add]
      exact rp_int
  · show n.toNat ≤ i
    simpa using hi
theorem iw_list {ta : TE} (ho : e.o = none) (h : Vl K ea W ta e (fun d => ∃ ds, d = .list ds ∧ P ds) R) : Iw K ea W (iList K ta) e P R := fun M H σ Rk rs k kr => by
  refine h M H σ _ rs (fun d v H1 p e1 r => ?_) kr
  obtain ⟨ds, rfl, p⟩ := p
  obtain ⟨a, xs, rfl, h1, h2⟩ := r.list
  obtain ⟨M', x1, r1, t2, n1, _⟩ := (rs.mono e1).grow
  have hM := n1 ho
  subst hM
  refine ⟨a, rfl, ⟨xs, SqL.of h1⟩, k ds _ _ _ p e1 x1 r1 fun H2 x2 => ⟨fun i hi => ?_, fun i x H' d hd hy => ?_, fun i hi => ?_⟩⟩
  · exact ⟨xs, xs[i]'(by rw [h2.length]; exact hi), SqL.of (x2 _ _ h1), List.getElem?_eq_getElem _⟩
  · obtain ⟨rfl, hy⟩ := hy
    obtain ⟨v, g1, g2⟩ := h2.get hd
    have q := hy xs (SqL.of (x2 _ _ h1))
    rw [g1] at q
    cases q
    exact ⟨Ex.refl _, .inl (g2.mono (.of x2))⟩
  · exact ⟨xs, SqL.of (x2 _ _ h1), by rw [h2.length]; exact hi⟩
theorem iw_tup {ta : TE} (h : Vl K ea W ta e (fun d => ∃ ds, d = .tuple ds ∧ P ds) R) : Iw K ea W (iTup K ta) e P R := fun M H σ Rk rs k kr => by
  refine h M H σ _ rs (fun d v H1 p e1 r => ?_) kr
  obtain ⟨ds, rfl, p⟩ := p
  obtain ⟨a, xs, rfl, h1, h2⟩ := r.tuple
  obtain ⟨M', x1, r1, t2, n1, _⟩ := (rs.mono e1).grow
  have g := t2 _ _ h1
  have tt := h2.mono t2
  refine ⟨a, rfl, ⟨xs, SqT.of h1⟩, k ds _ _ M' p e1 x1 r1 fun H2 x2 => ⟨fun i hi => ?_, fun i x H' d hd hy => ?_, fun i hi => ?_⟩⟩
  · exact ⟨xs, xs[i]'(by rw [h2.length]; exact hi), SqT.of (x2 _ _ g), List.getElem?_eq_getElem _⟩
  · obtain ⟨rfl, hy⟩ := hy
    obtain ⟨v, g1, g2⟩ := tt.get hd
    have q := hy xs (SqT.of (x2 _ _ g))
    rw [g1] at q
    cases q
    exact ⟨Ex.refl _, .inl (g2.mono (.of x2))⟩
  · exact ⟨xs, SqT.of (x2 _ _ g), by rw [h2.length]; exact hi⟩
theorem iw_str {ta : TE} (h : Vl K ea W ta e (fun d => ∃ x : Str, d = .str x ∧ P (x.cps.toList.map fun c => .str ⟨#[c]⟩)) R) : Iw K ea W (iStr ta) e P R := fun M H σ Rk rs k kr => by
  refine h M H σ _ rs (fun d v H1 p e1 r => ?_) kr
  obtain ⟨x, rfl, p⟩ := p
  rw [r.str]
  refine ⟨x, rfl, k _ _ H1 M p e1 (Ex.refl M) (rs.mono e1) fun H2 x2 => ⟨fun i hi => ?_, fun i v H' d hd hy => ?_, fun i hi => ?_⟩⟩
  · show i < x.cps.size
    simpa using hi
  · obtain ⟨rfl, c, hc, rfl⟩ := hy
    refine ⟨Ex.refl _, ?_⟩
    rw [List.getElem?_map, Array.getElem?_toList, hc] at hd
    have hd' : PyData.str ⟨#[c]⟩ = d := Option.some.inj hd
    rw [← hd']
    exact rp_str
  · show x.cps.size ≤ i
    simpa using hi
theorem zip_get {xs ys : List PyData} {i : Nat} {d : PyData} (h : (List.zipWith (fun a b => PyData.tuple [a, b]) xs ys)[i]? = some d) : ∃ a b, xs[i]? = some a ∧ ys[i]? = some b ∧ d = .tuple [a, b] := by
  rw [List.getElem?_zipWith] at h
  cases hx : xs[i]? with
  | none => rw [hx] at h; simp at h
  | some a =>
    cases hy : ys[i]? with
    | none => rw [hx, hy] at h; simp at h
    | some b =>
      rw [hx, hy] at h
      exact ⟨a, b, rfl, rfl, (Option.some.inj h).symm⟩
theorem iw_zipL {ta tb : TE} (ho : e.o = none) (h : Vl K ea W ta e (fun a => ∃ xs, a = .list xs ∧ Vl K ea W tb e (fun b => ∃ ys, b = .list ys ∧ P (List.zipWith (fun a b => .tuple [a, b]) xs ys)) R) R) : Iw K ea W (RZ.iZipA K (tCons ta (tCons tb tNil))) e P R := fun M H σ Rk rs k kr => by
  refine h M H σ _ rs (fun d v H1 p e1 r => ?_) kr
  obtain ⟨xs, rfl, p⟩ := p
  refine p M H1 σ _ (rs.mono e1) (fun b y H2 p e2 r2 => ?_) fun er H2 q e2 => kr er H2 q (e1.trans e2)
  obtain ⟨ys, rfl, p⟩ := p
  obtain ⟨a, us, rfl, h1, h2⟩ := (r.mono e2).list
  obtain ⟨b, ws, rfl, h3, h4⟩ := r2.list
  obtain ⟨M', x1, r1, t2, n1, _⟩ := (rs.mono (e1.trans e2)).grow
  have hM := n1 ho
  subst hM
  refine ⟨a, b, us, ws, rfl, .inl ⟨SqL.of h1, SqL.of h3, k _ _ _ _ p (e1.trans e2) x1 r1 fun H3 x3 => ⟨fun i hi => ?_, fun i x H' d hd hy => ?_, fun i hi => ?_⟩⟩⟩
  · have hi' : i < min us.length ws.length := by rw [h2.length, h4.length]; simpa using hi
    exact ⟨us, ws, us[i]'(by omega), ws[i]'(by omega), SqL.of (x3 _ _ h1), SqL.of (x3 _ _ h3), List.getElem?_eq_getElem _, List.getElem?_eq_getElem _⟩
  · obtain ⟨T, u, w, rfl, hT, rfl, f1, f2⟩ := hy
    obtain ⟨da, db, g1, g2, rfl⟩ := zip_get hd
    obtain ⟨v1, k1, l1⟩ := h2.get g1
    obtain ⟨v2, k2, l2⟩ := h4.get g2
    have q1 := f1 us (SqL.of (x3 _ _ h1))
    have q2 := f2 ws (SqL.of (x3 _ _ h3))
    rw [k1] at q1
    rw [k2] at q2
    cases q1
    cases q2
    exact ⟨Ex.new hT, rp_tup upd_same (.cons (l1.mono (.of (x3.trans (Ex.new hT)))) (.one (l2.mono (.of (x3.trans (Ex.new hT))))))⟩
  · refine ⟨us, ws, SqL.of (x3 _ _ h1), SqL.of (x3 _ _ h3), ?_⟩
    have hi' : min us.length ws.length ≤ i := by rw [h2.length, h4.length]; simpa using hi
    omega
theorem iw_zipT {ta tb : TE} (h : Vl K ea W ta e (fun a => ∃ xs, a = .tuple xs ∧ Vl K ea W tb e (fun b => ∃ ys, b = .tuple ys ∧ P (List.zipWith (fun a b => .tuple [a, b]) xs ys)) R) R) : Iw K ea W (RZ.iZipA K (tCons ta (tCons tb tNil))) e P R := fun M H σ Rk rs k kr => by
  refine h M H σ _ rs (fun d v H1 p e1 r => ?_) kr
  obtain ⟨xs, rfl, p⟩ := p
  refine p M H1 σ _ (rs.mono e1) (fun b y H2 p e2 r2 => ?_) fun er H2 q e2 => kr er H2 q (e1.trans e2)
  obtain ⟨ys, rfl, p⟩ := p
  obtain ⟨a, us, rfl, h1, h2⟩ := (r.mono e2).tuple
  obtain ⟨b, ws, rfl, h3, h4⟩ := r2.tuple
  obtain ⟨M', x1, r1, t2, n1, _⟩ := (rs.mono (e1.trans e2)).grow
  have h1' := t2 _ _ h1
  have h3' := t2 _ _ h3
  have h2' := h2.mono t2
  have h4' := h4.mono t2
  refine ⟨a, b, us, ws, rfl, .inr ⟨SqT.of h1, SqT.of h3, k _ _ _ M' p (e1.trans e2) x1 r1 fun H3 x3 => ⟨fun i hi => ?_, fun i x H' d hd hy => ?_, fun i hi => ?_⟩⟩⟩
  · have hi' : i < min us.length ws.length := by rw [h2.length, h4.length]; simpa using hi
    exact ⟨us, ws, us[i]'(by omega), ws[i]'(by omega), SqT.of (x3 _ _ h1'), SqT.of (x3 _ _ h3'), List.getElem?_eq_getElem _, List.getElem?_eq_getElem _⟩
  · obtain ⟨T, u, w, rfl, hT, rfl, f1, f2⟩ := hy
    obtain ⟨da, db, g1, g2, rfl⟩ := zip_get hd
    obtain ⟨v1, k1, l1⟩ := h2'.get g1
    obtain ⟨v2, k2, l2⟩ := h4'.get g2
    have q1 := f1 us (SqT.of (x3 _ _ h1'))
    have q2 := f2 ws (SqT.of (x3 _ _ h3'))
    rw [k1] at q1
    rw [k2] at q2
    cases q1
    cases q2
    exact ⟨Ex.new hT, rp_tup upd_same (.cons (l1.mono (.of (x3.trans (Ex.new hT)))) (.one (l2.mono (.of (x3.trans (Ex.new hT))))))⟩
  · refine ⟨us, ws, SqT.of (x3 _ _ h1'), SqT.of (x3 _ _ h3'), ?_⟩
    have hi' : min us.length ws.length ≤ i := by rw [h2.length, h4.length]; simpa using hi
    omega
end
/-! ### comprehensions -/
section
variable {P : List PyData → Prop} {R : Er → Prop} {wi : TI}
/-- the turns of a comprehension: env says how the slots stand in a turn at which the iterator gives d -/
theorem lc_core' {g : TG} {te : TE} {vs : List Nat} (env : PyData → En) (C : PyData → Prop)
    (hg : ∀ (M H : Hp) (σ : L2.St) (v : V) (d : PyData) (Q : L2.St → Hp → Prop), RSM K M H σ e → Rp K H v d → C d → (∀ M' σ', Ex M M' → RSM K M' H σ' (env d) → wipe σ' vs = wipe σ vs → Q σ' H) → g v (wipe σ vs) H Q)
    (h : Iw K ea W wi e (fun ds => ∃ rs : List PyData, rs.length = ds.length ∧ rs.length < 100000 ∧ P rs ∧ ∀ (i : Nat) d r, ds[i]? = some d → rs[i]? = some r → C d ∧ flat r = true ∧ Vl K ea (fun _ _ _ _ => False) te (env d) (fun y => y = r) (fun _ => False)) R) : Vn K ea W (tLc wi g tYes te vs) e P R := fun M H σ Q rs kp kr => by
  refine h M H σ _ rs (fun ds J H1 M1 p e1 x1 r1 jk => ?_) kr
  obtain ⟨out, hl, hz, p, hs⟩ := p
  intro D hD
  have hMD : M1 D = none := fresh_back r1.ex hD
  refine ⟨fun i m H' => m = ds.length - i ∧ i ≤ ds.length ∧ Ex H1 H' ∧ ∃ acc, H' D = some (.lst acc) ∧ TpA H' acc (out.take i), ⟨ds.length, by simp, Nat.zero_le _, Ex.new hD, [], upd_same, .nil⟩, ?_⟩
  rintro i m H' ⟨rfl, hi, x2, acc, hacc, tacc⟩
  obtain ⟨j1, j2, j3⟩ := jk H' (r1.ex.trans x2)
  by_cases hlt : i < ds.length
  · refine .inr ⟨j1 i hlt, fun H'' => Ex H1 H'' ∧ ∃ acc, H'' D = some (.lst acc) ∧ TpA H'' acc (out.take (i + 1)), fun H'' ⟨q1, q2⟩ => ⟨ds.length - (i + 1), by omega, rfl, hlt, q1, q2⟩, fun v H2 hy => ?_⟩
    obtain ⟨y1, y2⟩ := j2 i v H2 ds[i] (List.getElem?_eq_getElem hlt) hy
    have hro : out[i]? = some (out[i]'(by omega)) := List.getElem?_eq_getElem _
    obtain ⟨fd, fr, hv⟩ := hs i ds[i] _ (List.getElem?_eq_getElem hlt) hro
    refine hg M1 H2 σ v ds[i] _ ((r1.mono x2).mono y1) y2 fd fun M' σ' x3 r3 hw => ⟨hw, ?_⟩
    dsimp only [tYes]
    rw [if_pos rfl]
    refine hv M' H2 σ' _ r3 (fun y w H4 py e4 ry => ?_) (fun _ _ z => z.elim)
    subst py
    have hD2 := (y1.trans e4) _ _ hacc
    refine ⟨acc, hD2, ?_, Ex.mut ((x2.trans y1).trans e4) hD, acc ++ [w], upd_same, ?_⟩
    · rw [tacc.length, List.length_take]
      exact sz_lt (Nat.lt_of_le_of_lt (Nat.min_le_right _ _) hz)
    · rw [List.take_add_one, hro]
      exact (((tacc.mono (.of (y1.trans e4))).mono (Et.updL hD2))).append (.one (((ry.flat fr)).mono (Et.updL hD2)))
  · have ei : i = ds.length := by omega
    subst ei
    refine .inl ⟨j3 _ (Nat.le_refl _), ?_⟩
    rw [← hl, List.take_length] at tacc
    exact kp out D acc H' p (e1.trans x2) (fresh_back e1 hD) hacc tacc
theorem wipe_set (σ : L2.St) (i : Nat) (v : Option V) : wipe ((wipe σ [i]).set i v) [i] = wipe σ [i] := by
  show (((σ.set i none).set i v).set i none) = σ.set i none
  rw [List.set_set, List.set_set]
theorem RSM.wipe1 {M H : Hp} {σ : L2.St} {i : Nat} {v : V} {d : PyData} (h : RSM K M H σ e) (hf : flat d = true) (r : Rp K H v d) : ∃ M', Ex M M' ∧ RSM K M' H ((wipe σ [i]).set i (some v)) (e.set i d) := by
  obtain ⟨M', x1, h1, r1⟩ := h.take r (.inl hf)
  refine ⟨M', x1, ?_⟩
  have q := h1.put (i := i) r1
  show RSM K M' H ((σ.set i none).set i (some v)) (e.set i d)
  rw [List.set_set]
  exact q
theorem vn_lc1 {i : Nat} {te : TE} (h : Iw K ea W wi e (fun ds => ∃ rs : List PyData, rs.length = ds.length ∧ rs.length < 100000 ∧ P rs ∧ ∀ (k : Nat) d r, ds[k]? = some d → rs[k]? = some r → flat d = true ∧ flat r = true ∧ Vl K ea (fun _ _ _ _ => False) te (e.set i d) (fun y => y = r) (fun _ => False)) R) : Vn K ea W (tLc wi (gName i) tYes te [i]) e P R :=
  lc_core' (fun d => e.set i d) (fun d => flat d = true) (fun M H σ v d Q rs r hf k => by
    obtain ⟨M', x1, r1⟩ := rs.wipe1 (i := i) hf r
    exact k M' _ x1 r1 (wipe_set σ i (some v))) h
/-- two names from a pair -/
def pr2 (e : En) (i j : Nat) : PyData → En
  | .tuple [a, b] => (e.set i a).set j b
  | _ => e
theorem vn_lc2 {i j : Nat} (hij : i ≠ j) {te : TE} (h : Iw K ea W wi e (fun ds => ∃ rs : List PyData, rs.length = ds.length ∧ rs.length < 100000 ∧ P rs ∧ ∀ (k : Nat) d r, ds[k]? = some d → rs[k]? = some r → (∃ a b, d = .tuple [a, b]) ∧ flat r = true ∧ Vl K ea (fun _ _ _ _ => False) te (pr2 e i j d) (fun y => y = r) (fun _ => False)) R) :
    Vn K ea W (tLc wi (gTup K 2 (gCons (gName i) (gCons (gName j) gNil))) tYes te [i, j]) e P R := by
  have key : ∀ (M H : Hp) (σ : L2.St) (v : V) (a b : PyData) (Q : L2.St → Hp → Prop), RSM K M H σ e → Rp K H v (.tuple [a, b]) → (∀ M' σ', Ex M M' → RSM K M' H σ' (pr2 e i j (.tuple [a, b])) → wipe σ' [i, j] = wipe σ [i, j] → Q σ' H) → gTup K 2 (gCons (gName i) (gCons (gName j) gNil)) v (wipe σ [i, j]) H Q := by
    intro M H σ v a b Q rs r k
    have c1 : ∀ (σ : L2.St) (a b : Option V), (σ.set i a).set j b = (σ.set j b).set i a := fun σ a b => List.set_comm a b hij
    obtain ⟨p, xs, rfl, h1, h2⟩ := r.tuple
    cases h2 with
    | cons ta h2 =>
      cases h2 with
      | cons tb h2 =>
        cases h2
        rename_i x y
        refine ⟨p, [x, y], rfl, SqT.of h1, rfl, x, [y], rfl, y, [], rfl, rfl, ?_⟩
        obtain ⟨M1, x1, r1, q1⟩ := rs.take (.inl ta) (.inl ta.fl)
        have r2 := r1.put (i := i) q1
        obtain ⟨M2, x2, r3, q2⟩ := r2.take (.inl tb) (.inl tb.fl)
        have r4 := r3.put (i := j) q2
        refine k M2 _ (x1.trans x2) ?_ ?_
        · show RSM K M2 H ((((σ.set j none).set i none).set i (some x)).set j (some y)) ((e.set i a).set j b)
          have e1 : ((((σ.set j none).set i none).set i (some x)).set j (some y)) = (σ.set i (some x)).set j (some y) := by
            rw [List.set_set, c1 (σ.set j none), List.set_set, ← c1]
          rw [e1]
          exact r4
        · show (((((((σ.set j none).set i none).set i (some x)).set j (some y)).set j none).set i none)) = ((σ.set j none).set i none)
          rw [List.set_set, List.set_set, c1 (σ.set j none), List.set_set, List.set_set]
  exact lc_core' (fun d => pr2 e i j d) (fun d => ∃ a b, d = .tuple [a, b]) (fun M H σ v d Q rs r hf k => by
    obtain ⟨a, b, rfl⟩ := hf
    exact key M H σ v a b Q rs r k) h
end
end
end Fw
set_option Elab.async false
set_option linter.all false
set_option autoImplicit false
set_option maxRecDepth 100000
set_option maxHeartbeats 1000000
/-! Fw4: defs and their promises; rules in short. -/
namespace Fw
open PySem PySem.Spec PyProof.Rows L2 Evl
abbrev W0 : WX := fun _ _ _ _ => False
/-- an error leaves the def -/
abbrev WF (E : XK) : WX := fun cls d _ H => E cls d H
/-- the slots at a def's entry -/
def stE (N : List Str) (ds : List PyData) : En := ⟨ds.map some ++ List.replicate (N.length - ds.length) none, none⟩
abbrev endV (r : Except Er PyData) : AE := { nx := fun _ => r = .ok .none, rt := fun d => r = .ok d }
abbrev endX (r : Except Er PyData) : AE := { nx := fun _ => r = .ok .none, rt := fun d => r = .ok d, er := fun er => r = .error er }
abbrev endN (rs : List PyData) : AE := { nx := fun _ => False, rl := fun ds => ds = rs }
/-- a def by its name: where it stands, what it promises, how its arguments bind -/
structure Callee (P : Program) (w : World) (K : PySem.W.Frag) (mg : Str → Option Value) (base : Heap) (CX : CXT) (k : Nat) (x : Str) (sp : Sp) : Prop where
  ex : ∃ (f : Addr) (fd : FuncData) (ps : List Str), FnOk P w K mg base CX k f fd ps sp ∧ mg x = some (.ref f) ∧ PySem.W.keepIn K (.ref f) = true ∧ Binds K fd ps []
section
variable {P : Program} {w : World} {K : PySem.W.Frag} {mg : Str → Option Value} {base : Heap} {ea : Er → Addr}
theorem RpA.startR {H : Hp} {vs : List V} {ds : List PyData} {N : List Str} (h : RpA K H vs ds) (hl : ds.length ≤ N.length) : RSM K H H (start N vs) (stE N ds) := by
  refine ⟨Ex.refl H, ?_, fun i d q => ?_, fun _ _ q => (by cases q)⟩
  · unfold L2.start stE
    simp only [List.length_append, List.length_map, List.length_replicate, h.length]
  · unfold stE at q
    simp only at q
    by_cases hi : i < ds.length
    · rw [List.getElem?_append_left (by simpa using hi), List.getElem?_map] at q
      cases e : ds[i]? with
      | none => rw [e] at q; cases q
      | some a =>
        rw [e] at q
        cases q
        obtain ⟨v, h1, h2⟩ := h.get e
        refine ⟨v, ?_, h2⟩
        unfold L2.start
        have hv : i < vs.length := by rw [h.length]; exact hi
        rw [List.getElem?_append_left (by simpa using hv), List.getElem?_map, h1]
        rfl
    · rw [List.getElem?_append_right (by simpa using hi), List.getElem?_replicate] at q
      split at q <;> cases q
theorem scope_le {N ps : List Str} {sc : Scope} (S : FnScope N ps sc) : ps.length ≤ N.length := by
  have := congrArg List.length S.pre
  rw [List.length_take] at this
  omega
section
variable {x : Str} {st : Stmt} {f : Addr} {fd : FuncData} {N ps : List Str} {k : Nat} {F : List PyData → Except Er PyData → Prop} {FN : List PyData → List PyData → Prop}
/-- a def from which nothing is raised -/
theorem okV (G : FunD K x x (defArgs st) (defBody st) (defScope st) [] [] f fd) (hm : mg x = some (.ref f)) (S : FnScope N ps (defScope st)) (len : ∀ ds r, F ds r → ds.length = ps.length)
    (hb : ∀ (kV doc pm : Value) (an : Option Addr) (cdv ct : Value) (us : List Value), us.length = ps.length → bindArgs (PySem.W.fnOf x x (defArgs st) (defBody st) (defScope st) .none kV doc pm an cdv ct) ⟨us, []⟩ = pure (ps.zip us))
    (hbody : ∀ (cdv : Value) (A : Around) (outer : List Env) (s : Shared) (H : Hp) (E : XK), Room k (A.deeper (envOfC x (defScope st) s.heap.objs.size f cdv)) →
      ∃ t, PSs (cxOf CX0 P w K mg base N x (defScope st) f cdv A outer s H E).nox (defBody st) t ∧ ∀ ds r, F ds r → Sa K ea W0 t (stE N ds) (endV r)) : Callee P w K mg base CX0 (k + 1) x (spF K ea F) := by
  refine ⟨f, fd, ps, ?_, hm, G.kp, G.bindsN hb⟩
  refine G.ok S (fun vs H Q E h => ?_) fun cdv A outer s H vs Q E hr h => ?_
  · obtain ⟨ds, r, ra, hF, _⟩ := h
    rw [ra.length]
    exact len ds r hF
  · obtain ⟨ds, r, ra, hF, k1, k2⟩ := h
    obtain ⟨t, ht, hs⟩ := hbody cdv A outer s H E hr
    refine ⟨t, ht.nox, hs ds r hF H H _ _ ((ra.startR (by rw [len ds r hF]; exact scope_le S)).rs (Ex.refl H)) ⟨fun e σ H' q rs => k1 _ _ H' q rs.ex rp_none, fun _ _ _ q => q.elim, fun _ _ _ q => q.elim, fun d v H' q x r => k1 d v H' q x r, fun _ _ _ _ q => q.elim, fun _ _ _ q => q.elim⟩⟩
/-- a def that hands back a new list -/
theorem okN (G : FunD K x x (defArgs st) (defBody st) (defScope st) [] [] f fd) (hm : mg x = some (.ref f)) (S : FnScope N ps (defScope st)) (len : ∀ ds r, FN ds r → ds.length = ps.length)
    (hb : ∀ (kV doc pm : Value) (an : Option Addr) (cdv ct : Value) (us : List Value), us.length = ps.length → bindArgs (PySem.W.fnOf x x (defArgs st) (defBody st) (defScope st) .none kV doc pm an cdv ct) ⟨us, []⟩ = pure (ps.zip us))
    (hbody : ∀ (cdv : Value) (A : Around) (outer : List Env) (s : Shared) (H : Hp) (E : XK), Room k (A.deeper (envOfC x (defScope st) s.heap.objs.size f cdv)) →
      ∃ t, PSs (cxOf CX0 P w K mg base N x (defScope st) f cdv A outer s H E).nox (defBody st) t ∧ ∀ ds r, FN ds r → Sa K ea W0 t (stE N ds) (endN r)) : Callee P w K mg base CX0 (k + 1) x (spN K FN) := by
  refine ⟨f, fd, ps, ?_, hm, G.kp, G.bindsN hb⟩
  refine G.ok S (fun vs H Q E h => ?_) fun cdv A outer s H vs Q E hr h => ?_
  · obtain ⟨ds, r, ra, hF, _⟩ := h
    rw [ra.length]
    exact len ds r hF
  · obtain ⟨ds, r, ra, hF, k1⟩ := h
    obtain ⟨t, ht, hs⟩ := hbody cdv A outer s H E hr
    refine ⟨t, ht.nox, hs ds r hF H H _ _ ((ra.startR (by rw [len ds r hF]; exact scope_le S)).rs (Ex.refl H)) ⟨fun _ _ _ q => q.elim, fun _ _ _ q => q.elim, fun _ _ _ q => q.elim, fun _ _ _ q => q.elim, fun ds p xs H' q x n h t => ?_, fun _ _ _ q => q.elim⟩⟩
    have q' : ds = r := q
    subst q'
    exact k1 p xs H' x n h t
/-- a def that may raise -/
theorem okX (G : FunD K x x (defArgs st) (defBody st) (defScope st) [] [] f fd) (hm : mg x = some (.ref f)) (S : FnScope N ps (defScope st)) (len : ∀ ds r, F ds r → ds.length = ps.length)
    (hb : ∀ (kV doc pm : Value) (an : Option Addr) (cdv ct : Value) (us : List Value), us.length = ps.length → bindArgs (PySem.W.fnOf x x (defArgs st) (defBody st) (defScope st) .none kV doc pm an cdv ct) ⟨us, []⟩ = pure (ps.zip us))
    (hbody : ∀ (cdv : Value) (A : Around) (outer : List Env) (s : Shared) (H : Hp) (E : XK), Room k (A.deeper (envOfC x (defScope st) s.heap.objs.size f cdv)) →
      ∃ t, PSs (cxOf (L2.CX P w) P w K mg base N x (defScope st) f cdv A outer s H E) (defBody st) t ∧ ∀ ds r, F ds r → Sa K ea (WF E) t (stE N ds) (endX r)) : Callee P w K mg base (L2.CX P w) (k + 1) x (spF K ea F) := by
  refine ⟨f, fd, ps, ?_, hm, G.kp, G.bindsN hb⟩
  refine G.ok S (fun vs H Q E h => ?_) fun cdv A outer s H vs Q E hr h => ?_
  · obtain ⟨ds, r, ra, hF, _⟩ := h
    rw [ra.length]
    exact len ds r hF
  · obtain ⟨ds, r, ra, hF, k1, k2⟩ := h
    obtain ⟨t, ht, hs⟩ := hbody cdv A outer s H E hr
    refine ⟨t, ht, hs ds r hF H H _ _ ((ra.startR (by rw [len ds r hF]; exact scope_le S)).rs (Ex.refl H)) ⟨fun e σ H' q rs => k1 _ _ H' q rs.ex rp_none, fun _ _ _ q => q.elim, fun _ _ _ q => q.elim, fun d v H' q x r => k1 d v H' q x r, fun _ _ _ _ q => q.elim, fun er σ H' q x => k2 er H' q x⟩⟩
end
end
/-! ### calls -/
section
variable {X : Cx} {j : Nat} {x : Str} {sp : Sp} {p pos : Pos} {e : Expr} {es : List Expr} {t : TA} {W : WX}
/-- of a def from which nothing is raised -/
theorem Callee.c0 (c : Callee X.prog X.w X.K X.mg X.base CX0 j x sp) (hr : Room j X.A) (hg : Gl X x) (ha : PA X (e :: es) t)
    (hdb : (x == ("__debug__" : Str)) = false := by decide) (he : starEach (e :: es) X.env = (false, eval e X.env) :: starEach es X.env := by rfl) (hpl : (backTo pos (starEach es X.env)).any (·.1) = false := by rfl) :
    PE X (.Call (.Name x p) (e :: es) [] pos) (tCallS sp (WE W) t) := by
  obtain ⟨f, fd, ps, F, hm, hk, hb⟩ := c.ex
  exact pe_callS F hr hg hm hk hb (fun σ _ _ _ _ _ _ h => h.elim) ha hdb he hpl
/-- of a def that may raise -/
theorem Callee.cX (c : Callee X.prog X.w X.K X.mg X.base (L2.CX X.prog X.w) j x sp) (hr : Room j X.A) (hg : Gl X x) (tk : Takes X W) (ha : PA X (e :: es) t)
    (hdb : (x == ("__debug__" : Str)) = false := by decide) (he : starEach (e :: es) X.env = (false, eval e X.env) :: starEach es X.env := by rfl) (hpl : (backTo pos (starEach es X.env)).any (·.1) = false := by rfl) :
    PE X (.Call (.Name x p) (e :: es) [] pos) (tCallS sp (WE W) t) := by
  obtain ⟨f, fd, ps, F, hm, hk, hb⟩ := c.ex
  exact pe_callS F hr hg hm hk hb (fun σ => passAt tk σ) ha hdb he hpl
/-- of such a def, where it does not -/
theorem Callee.cN (c : Callee X.prog X.w X.K X.mg X.base (L2.CX X.prog X.w) j x sp) (hr : Room j X.A) (hg : Gl X x) (ha : PA X (e :: es) t)
    (hdb : (x == ("__debug__" : Str)) = false := by decide) (he : starEach (e :: es) X.env = (false, eval e X.env) :: starEach es X.env := by rfl) (hpl : (backTo pos (starEach es X.env)).any (·.1) = false := by rfl) :
    PE X (.Call (.Name x p) (e :: es) [] pos) (tCallS sp (WE W0) t) := by
  obtain ⟨f, fd, ps, F, hm, hk, hb⟩ := c.ex
  exact pe_callS F hr hg hm hk hb (fun σ pins H s e s' I h => passL pins σ H s e s' I h) ha hdb he hpl
/-- raise C('..') -/
theorem ps_rse {C : Addr} {x m : Str} {j : Nat} {p p2 pos pos' : Pos} (hc : X.calm = true) (tk : Takes X W) (q : PySem.W.excIn X.K C He.veBase "ValueError.__new__" = true) (gC : X.mg x = some (.ref C)) (kC : PySem.W.keepIn X.K (.ref C) = true)
    (h1 : PySem.W.subIn X.K (.ref C) (.type "BaseException") = some true) (h2 : PySem.W.typeIn X.K (.ref C) = some (.type "type")) (hg : Gl X x) (hdb : (x == ("__debug__" : Str)) = false := by decide) :
    PS X (.Raise (some (.Call (.Name x p) [.Constant (.str m) j p2] [] pos)) none pos') (tRse W C) :=
  ps_raise hc tk (pmk_own PySem.F.excBase_ValueError q gC kC (raises_own h1 h2) hg hdb)
theorem ixT {K : PySem.W.Frag} (h : X.K = K) : IxR X (rIxT K) := by rw [← h]; exact ix_tup
theorem ixL {K : PySem.W.Frag} (h : X.K = K) : IxR X (rIxL K) := by rw [← h]; exact ix_list
theorem ip_fdiv : PIp X .FloorDiv (rI CDiv fun i j => .int (i / j)) := fun pins s σ H x y v u Q I rx ry h => iop_fdiv pins s σ H x y v u Q I rx ry h
end
/-! ### further statements -/
section
variable {K : PySem.W.Frag} {ea : Er → Addr} {W : WX} {e : En} {A : AE} {t u : TS} {te : TE}
theorem sa_aug {i : Nat} {a : PyData} {ti : TIp} (h0 : e.ρ[i]? = some (some a)) (h : Vl K ea W te e (fun b => Op K ti a b (fun d => (flat d = true ∨ e.o = none) ∧ A.nx (e.set i d))) A.er) : Sa K ea W (tAug i te ti) e A := fun B H σ D rs lk => by
  obtain ⟨M, x, rs⟩ := rs
  obtain ⟨v, h1, h2⟩ := rs.val i a h0
  refine ⟨v, h1, h M H σ _ rs (fun b y H1 p e1 r => ?_) (lk.kr (x.trans rs.ex))⟩
  refine p H1 v y _ ((h2.mono rs.ex).mono e1) r fun d z H2 q e2 r2 => ?_
  obtain ⟨M', x1, r1, q1⟩ := (rs.mono (e1.trans e2)).take r2 q.1
  exact lk.nx _ _ H2 q.2 ((r1.put q1).rs (x.trans x1))
theorem vl_neg {P : PyData → Prop} {R : Er → Prop} (h : Vl K ea W te e (fun d => ∃ i, d = .int i ∧ P (.int (-i))) R) : Vl K ea W (tUn (rU fun i => .int (-i)) te) e P R := fun M H σ Q rs kp kr =>
  h M H σ _ rs (fun d v H1 p e1 r => by
    obtain ⟨i, rfl, p⟩ := p
    exact ⟨i, r.int, kp _ _ H1 p e1 rp_int⟩) kr
/-- try: .. except C: return None -/
theorem sa_try {tb : WX → TS} {c : Value} {Wout : WX} (hx : ∀ er, PySem.W.exmOne K (.ref (ea er)) c = some true) (h : ∀ W', Sa K ea W' (tb W') e { A with er := fun _ => A.rt .none }) :
    Sa K ea W (fun D σ H => tb (wOnly K c (fun _ _ _ => tRet (tC .non)) Wout D) D σ H) e A := fun B H σ D rs lk => by
  refine h _ B H σ D rs ⟨lk.nx, lk.bk, lk.ct, lk.rt, lk.rl, fun er σ' H' q x => ⟨true, hx er, fun _ a _ => lk.rt .none .non H' q x rp_none, fun z => (by cases z)⟩⟩
/-! ### uses of promises -/
theorem use0 {F : List PyData → Except Er PyData → Prop} {ds : List PyData} {d : PyData} {P : PyData → Prop} {R : Er → Prop} (hF : F ds (.ok d)) (p : P d) : ∃ r, F ds r ∧ (∀ d, r = .ok d → P d) ∧ (∀ er, r = .error er → R er) :=
  ⟨.ok d, hF, fun d' h => by cases h; exact p, fun er h => by cases h⟩
theorem useX {α : Type} {F : List PyData → Except Er PyData → Prop} {ds : List PyData} {m : Except Er α} {c : α → PyData} {P : PyData → Prop} {R : Er → Prop} (hF : F ds (m.map c)) (h1 : ∀ v, m = .ok v → P (c v)) (h2 : ∀ er, m = .error er → R er) :
    ∃ r, F ds r ∧ (∀ d, r = .ok d → P d) ∧ (∀ er, r = .error er → R er) :=
  ⟨m.map c, hF, fun d h => by
    cases m with
    | error er => cases h
    | ok v => cases h; exact h1 v rfl, fun er h => by
    cases m with
    | error er' => cases h; exact h2 _ rfl
    | ok v => cases h⟩
theorem useE {F : List PyData → Except Er PyData → Prop} {ds : List PyData} {er : Er} {P : PyData → Prop} {R : Er → Prop} (hF : F ds (.error er)) (p : R er) : ∃ r, F ds r ∧ (∀ d, r = .ok d → P d) ∧ (∀ er, r = .error er → R er) :=
  ⟨.error er, hF, fun d' h => (by cases h), fun er h => by cases h; exact p⟩
end
end Fw
set_option Elab.async false
set_option linter.all false
set_option autoImplicit false
set_option maxRecDepth 100000
/-! Tt: the text's defs by name (printed by gen_tt.py), the facts of the top that the bodies use. -/
namespace Ck
open PySem PySem.Spec PyProof.Rows L2 Fw
def top (i : Nat) : Stmt := PySem.Challenge.pw_cloak_k29_whole_explained_from_every_ses.main.body.getD i (.Pass ⟨0, 0, 0, 0⟩)
abbrev FnP (K : PySem.W.Frag) (x : Str) (st : Stmt) (f : Addr) (fd : FuncData) : Prop := FunD K x x (defArgs st) (defBody st) (defScope st) [] [] f fd
abbrev scoin : Stmt := top 7
abbrev schallenge : Stmt := top 8
abbrev sjoined_text : Stmt := top 9
abbrev schallenge_of : Stmt := top 10
abbrev sraised : Stmt := top 12
abbrev sis_element : Stmt := top 13
abbrev scheck_element : Stmt := top 14
abbrev spower : Stmt := top 15
abbrev sproduct : Stmt := top 16
abbrev sproduct_of_powers : Stmt := top 17
abbrev slogarithm : Stmt := top 18
abbrev squotient : Stmt := top 19
abbrev sis_exponent : Stmt := top 22
abbrev scheck_person : Stmt := top 23
abbrev splain_mark : Stmt := top 24
abbrev smark_of : Stmt := top 25
abbrev scheck_secret : Stmt := top 27
abbrev scheck_exponents : Stmt := top 28
abbrev scheck_blinding : Stmt := top 29
abbrev skey_of : Stmt := top 30
abbrev shidden : Stmt := top 31
abbrev schallenge_for : Stmt := top 32
abbrev srequest_of : Stmt := top 33
abbrev sis_granted : Stmt := top 34
abbrev sticket_of : Stmt := top 35
abbrev sspend_of : Stmt := top 37
abbrev sinner_challenge : Stmt := top 39
abbrev sblinding_of : Stmt := top 40
abbrev sexplain_ticket : Stmt := top 41
abbrev slaw_cell : Stmt := top 43
abbrev slaw_numbers : Stmt := top 44
abbrev slaw_is_prime : Stmt := top 45
abbrev slaw_order : Stmt := top 46
abbrev slaw_power : Stmt := top 47
abbrev slaw_setup : Stmt := top 48
abbrev slaw_product : Stmt := top 49
abbrev slaw_person : Stmt := top 50
abbrev slaw_mark : Stmt := top 51
abbrev slaw_blinding : Stmt := top 52
abbrev slaw_challenge : Stmt := top 53
abbrev slaw_quotient : Stmt := top 54
abbrev slaw_session : Stmt := top 55
abbrev slaw_spend : Stmt := top 56
abbrev slaw_in_range : Stmt := top 57
abbrev slaw_leads : Stmt := top 58
abbrev slaw_spoilt : Stmt := top 59
abbrev slaw_further : Stmt := top 60
abbrev slaw_sessions : Stmt := top 61
abbrev slaw_row : Stmt := top 62
abbrev slaw : Stmt := top 63
structure Tx (K : PySem.W.Frag) (mg : Str → Option Value) (ea : Er → Addr) (CE : Addr) : Prop where
  flen : mg "len" = none
  frange : mg "range" = none
  fzip : mg "zip" = none
  flist : mg "list" = none
  ftuple : mg "tuple" = none
  fint : mg "int" = none
  fstr : mg "str" = none
  ford : mg "ord" = none
  fall : mg "all" = none
  fmax : mg "max" = none
  fmin : mg "min" = none
  fisinstance : mg "isinstance" = none
  fbool : mg "bool" = none
  cMODULUS : ∃ t, mg "MODULUS" = some (.int 2147483647 t)
  cSIDES : ∃ t, mg "SIDES" = some (.int 1000000 t)
  cGREATEST : ∃ t, mg "GREATEST" = some (.int 4 t)
  gNA : mg "NotAllowed" = some (.ref (ea .na))
  xNA : PySem.W.excIn K (ea .na) He.veBase "ValueError.__new__" = true
  kNA : PySem.W.keepIn K (.ref (ea .na)) = true
  bNA : PySem.W.subIn K (.ref (ea .na)) (.type "BaseException") = some true
  tNA : PySem.W.typeIn K (.ref (ea .na)) = some (.type "type")
  gBP : mg "BadPaper" = some (.ref (ea .bp))
  xBP : PySem.W.excIn K (ea .bp) He.veBase "ValueError.__new__" = true
  kBP : PySem.W.keepIn K (.ref (ea .bp)) = true
  bBP : PySem.W.subIn K (.ref (ea .bp)) (.type "BaseException") = some true
  tBP : PySem.W.typeIn K (.ref (ea .bp)) = some (.type "type")
  gCE : mg "CloakError" = some (.ref CE)
  exm : ∀ er, PySem.W.exmOne K (.ref (ea er)) (.ref CE) = some true
  isb : PySem.W.kitOne K (.type "int") (.type "bool") = some false
theorem Tx.gMODULUS {K : PySem.W.Frag} {mg : Str → Option Value} {ea : Er → Addr} {CE : Addr} (T : Tx K mg ea CE) {X : Cx} (hX : X.mg = mg) {pos : Pos} (hg : Gl X "MODULUS") : PE X (.Name "MODULUS" pos) (tC (.int 2147483647)) := by
  obtain ⟨t, h⟩ := T.cMODULUS
  exact pe_glob hg (by rw [hX]; exact h) ⟨t, rfl⟩
theorem Tx.gSIDES {K : PySem.W.Frag} {mg : Str → Option Value} {ea : Er → Addr} {CE : Addr} (T : Tx K mg ea CE) {X : Cx} (hX : X.mg = mg) {pos : Pos} (hg : Gl X "SIDES") : PE X (.Name "SIDES" pos) (tC (.int 1000000)) := by
  obtain ⟨t, h⟩ := T.cSIDES
  exact pe_glob hg (by rw [hX]; exact h) ⟨t, rfl⟩
theorem Tx.gGREATEST {K : PySem.W.Frag} {mg : Str → Option Value} {ea : Er → Addr} {CE : Addr} (T : Tx K mg ea CE) {X : Cx} (hX : X.mg = mg) {pos : Pos} (hg : Gl X "GREATEST") : PE X (.Name "GREATEST" pos) (tC (.int 4)) := by
  obtain ⟨t, h⟩ := T.cGREATEST
  exact pe_glob hg (by rw [hX]; exact h) ⟨t, rfl⟩
theorem fl_ {ds : List PyData} (h : ds.all flat = true) : ∀ d ∈ ds, flat d = true := List.all_eq_true.mp h
theorem ln_ {n m : Nat} (h : Nat.ble n m = true) : n ≤ m := Nat.le_of_ble_eq_true h
theorem hu64 {k : Nat} {A : Around} (hr : Room k A) : A.units + 64 < cLine := hr.units
end Ck
set_option Elab.async false
set_option linter.all false
set_option autoImplicit false
set_option maxRecDepth 100000
/-! Mr: what the program's defs compute, as plain functions. -/
namespace Ck
open PySem Fw
/-! ### the data -/
structure Su where
  (q g g0 g1 g2 g3 : Int)
structure Pe where
  (n a z : Int)
  deriving DecidableEq
structure Of where
  (z a b : Int)
  deriving DecidableEq
structure Bl where
  (s u v x0 x1 x2 x3 : Int)
  deriving DecidableEq
structure Re where
  (p : Pe) (o : Of) (c r : Int)
structure Ti where
  (A B z a b r : Int)
  deriving DecidableEq
structure Sp where
  (d r0 r1 r2 r3 : Int)
  deriving DecidableEq
abbrev dSu (s : Su) : PyData := .tuple [.int s.q, .tuple [.int s.g, .int s.g0, .int s.g1, .int s.g2, .int s.g3]]
abbrev dPe (p : Pe) : PyData := .tuple [.int p.n, .int p.a, .int p.z]
abbrev dOf (o : Of) : PyData := .tuple [.int o.z, .int o.a, .int o.b]
abbrev dBl (b : Bl) : PyData := .tuple [.int b.s, .int b.u, .int b.v, .tuple [.int b.x0, .int b.x1, .int b.x2, .int b.x3]]
abbrev dRe (r : Re) : PyData := .tuple [dPe r.p, dOf r.o, .int r.c, .int r.r]
abbrev dTi (t : Ti) : PyData := .tuple [.int t.A, .int t.B, .int t.z, .int t.a, .int t.b, .int t.r]
abbrev dSp (s : Sp) : PyData := .tuple [.int s.d, .tuple [.int s.r0, .int s.r1, .int s.r2, .int s.r3]]
structure Fi where
  (A B z a b : Int)
abbrev dFi (t : Fi) : PyData := .tuple [.int t.A, .int t.B, .int t.z, .int t.a, .int t.b]
def Fi.l (t : Fi) : List Int := [t.A, t.B, t.z, t.a, t.b]
def Ti.fi (t : Ti) : Fi := ⟨t.A, t.B, t.z, t.a, t.b⟩
/-! ### coins -/
def cM : Int := 2147483647
def coinStep (v : Int) (c : Nat) : Int := (v * 263 + (c : Int) + 1) % 2147483647
def coinTurn (v : Int) : Int := (v * 48271 + 12345) % 2147483647
def coinEnd (v : Int) : Int := coinTurn (coinTurn (coinTurn v)) / 1000 % 1000000
def coinM (seed n : Int) (t : Str) : Int := coinEnd (t.cps.toList.foldl coinStep ((seed * 31 + n * 1009 + 11) % 2147483647))
def challengeM (q : Int) (t : Str) : Int := 1 + coinM 0 q t % (q - 1)
def strI (n : Int) : Str := Str.ofString (toString n)
def joinedM (word : Str) (ns : List Int) : Str := Str.join " " (word :: ns.map strI)
def chalM (q : Int) (f : Fi) : Int := challengeM q (joinedM "ticket" f.l)
/-! ### groups -/
def pw (b e m : Int) : Int := b ^ e.toNat % m
def isEl (q v : Int) : Bool := decide (0 < v) && (decide (v < 2 * q + 1) && decide (pw v q (2 * q + 1) = 1))
def powerM (q b x : Int) : Except Er Int := if isEl q b = true then .ok (pw b (x % q) (2 * q + 1)) else .error .na
def productM (q a b : Int) : Except Er Int := if isEl q a = true then (if isEl q b = true then .ok (a * b % (2 * q + 1)) else .error .na) else .error .na
def ppM (q : Int) : List (Int × Int) → Int → Except Er Int
  | [], v => .ok v
  | p :: r, v => (match powerM q p.1 p.2 with
    | .error e => .error e
    | .ok y => ppM q r (v * y % (2 * q + 1)))
def logM (q b v : Int) : Except Er Int := if isEl q b = true then (if isEl q v = true then (if b = 1 then .error .na else (match (List.range q.toNat).find? (fun k => decide (b ^ k % (2 * q + 1) = v)) with
  | some k => .ok (k : Int)
  | none => .error .na)) else .error .na) else .error .na
def quoM (q a b : Int) : Except Er Int := if b % q = 0 then .error .na else .ok (a * pw b (q - 2) q % q)
/-! ### people -/
def isEx (q v : Int) : Bool := decide (0 ≤ v) && decide (v < q)
def okPe (S : Su) (p : Pe) : Bool := isEx S.q p.n && ((decide (0 ≤ p.a) && decide (p.a ≤ 4)) && (decide (0 ≤ p.z) && decide (p.z ≤ 4)))
def pmarkM (S : Su) (p : Pe) : Except Er Int := ppM S.q [(S.g0, 1), (S.g1, p.n), (S.g2, p.a), (S.g3, p.z)] 1
def markM (S : Su) (p : Pe) : Except Er Int := if okPe S p = true then (match pmarkM S p with
  | .error e => .error e
  | .ok m => if m = 1 then .error .na else .ok m) else .error .na
/-! ### issuing -/
def okSec (S : Su) (x : Int) : Bool := decide (1 ≤ x) && decide (x < S.q)
def okBl (S : Su) (b : Bl) : Bool := [b.s, b.u, b.v, b.x0, b.x1, b.x2, b.x3].all (isEx S.q) && !(decide (b.s = 0) || decide (b.u = 0))
def keyM (S : Su) (x : Int) : Except Er Int := if okSec S x = true then powerM S.q S.g x else .error .na
def okOf (S : Su) (o : Of) : Bool := (isEl S.q o.z && (isEl S.q o.a && isEl S.q o.b)) && !decide (o.z = 1)
def hiddenM (S : Su) (p : Pe) (o : Of) (b : Bl) : Except Er Fi := do
  let m ← markM S p
  if okOf S o = true then
    if okBl S b = true then
      let A ← powerM S.q m b.s
      let B ← ppM S.q [(S.g0, b.x0), (S.g1, b.x1), (S.g2, b.x2), (S.g3, b.x3)] 1
      let x1 ← powerM S.q o.a b.u
      let x2 ← powerM S.q S.g b.v
      let a1 ← productM S.q x1 x2
      let y1 ← powerM S.q o.b (b.s * b.u)
      let y2 ← powerM S.q A b.v
      let b1 ← productM S.q y1 y2
      let z1 ← powerM S.q o.z b.s
      .ok ⟨A, B, z1, a1, b1⟩
    else .error .na
  else .error .na
def requestM (S : Su) (p : Pe) (o : Of) (b : Bl) : Except Er Int := do
  let n ← hiddenM S p o b
  quoM S.q (chalM S.q n) b.u
def isGr (q base r first second c : Int) : Except Er Bool := do
  let l ← powerM q base r
  let x ← powerM q second c
  let y ← productM q first x
  .ok (decide (l = y))
def ticketM (S : Su) (key : Int) (p : Pe) (o : Of) (b : Bl) (r : Int) : Except Er Ti := do
  let n ← hiddenM S p o b
  if isEx S.q r = true then
    let c ← quoM S.q (chalM S.q n) b.u
    let g1 ← isGr S.q S.g r o.a key c
    if g1 = true then
      let m ← markM S p
      let g2 ← isGr S.q m r o.b o.z c
      if g2 = true then .ok ⟨n.A, n.B, n.z, n.a, n.b, (b.u * r + b.v) % S.q⟩ else .error .bp
    else .error .bp
  else .error .na
/-! ### spends -/
def spendM (S : Su) (p : Pe) (b : Bl) (d : Int) : Except Er Sp := if okPe S p = true then (if okBl S b = true then (if isEx S.q d = true then
  .ok ⟨d, (b.x0 + d * b.s * 1) % S.q, (b.x1 + d * b.s * p.n) % S.q, (b.x2 + d * b.s * p.a) % S.q, (b.x3 + d * b.s * p.z) % S.q⟩ else .error .na) else .error .na) else .error .na
/-! ### tickets -/
def blindM (S : Su) (rec : Re) (t : Ti) (sp : Sp) : Except Er Bl := do
  let m ← markM S rec.p
  let s ← logM S.q m t.A
  let u ← quoM S.q (chalM S.q t.fi) rec.c
  .ok ⟨s, u, (t.r - u * rec.r) % S.q, (sp.r0 - sp.d * s * 1) % S.q, (sp.r1 - sp.d * s * rec.p.n) % S.q, (sp.r2 - sp.d * s * rec.p.a) % S.q, (sp.r3 - sp.d * s * rec.p.z) % S.q⟩
def explM (S : Su) (key : Int) (rec : Re) (t : Ti) (sp : Sp) : Except Er (Option Bl) := do
  let b ← blindM S rec t sp
  let c ← requestM S rec.p rec.o b
  if c = rec.c then
    let t' ← ticketM S key rec.p rec.o b rec.r
    let s' ← spendM S rec.p b sp.d
    if t' = t ∧ s' = sp then .ok (some b) else .ok none
  else .ok none
def explainM (S : Su) (key : Int) (rec : Re) (t : Ti) (sp : Sp) : Option Bl := match explM S key rec t sp with
  | .ok o => o
  | .error _ => none
end Ck
set_option Elab.async false
set_option linter.all false
set_option autoImplicit false
set_option maxRecDepth 100000
set_option maxHeartbeats 1000000
/-! P1: coins. -/
namespace Ck
open PySem PySem.Spec PyProof.Rows L2 Fw Evl
theorem foldl_more {α β : Type} (f : β → α → β) (b : β) {l : List α} {i : Nat} {x : α} (h : l[i]? = some x) : (l.take (i + 1)).foldl f b = f ((l.take i).foldl f b) x := by
  rw [List.take_add_one, h, List.foldl_append]
  rfl
theorem mod_rng (a m : Int) (h : 0 < m) : 0 ≤ a % m ∧ a % m < m := ⟨Int.emod_nonneg _ (by omega), Int.emod_lt_of_pos _ h⟩
/-! ### promises -/
def F_coin (ds : List PyData) (r : Except Er PyData) : Prop := ∃ (seed n : Int) (t : Str), ds = [.int seed, .int n, .str t] ∧ r = .ok (.int (coinM seed n t))
theorem l_coin (ds : List PyData) (r : Except Er PyData) (h : F_coin ds r) : ds.length = 3 := by obtain ⟨_, _, _, rfl, _⟩ := h; rfl
theorem u_coin {P : PyData → Prop} {R : Er → Prop} {seed n : Int} {t : Str} (_ : True) (k : P (.int (coinM seed n t))) : ∃ r, F_coin [.int seed, .int n, .str t] r ∧ (∀ d, r = .ok d → P d) ∧ (∀ er, r = .error er → R er) := use0 ⟨_, _, _, rfl, rfl⟩ k
def F_challenge (ds : List PyData) (r : Except Er PyData) : Prop := ∃ (q : Int) (t : Str), ds = [.int q, .str t] ∧ 2 ≤ q ∧ r = .ok (.int (challengeM q t))
theorem l_challenge (ds : List PyData) (r : Except Er PyData) (h : F_challenge ds r) : ds.length = 2 := by obtain ⟨_, _, rfl, _⟩ := h; rfl
theorem u_challenge {P : PyData → Prop} {R : Er → Prop} {q : Int} {t : Str} (hq : 2 ≤ q) (k : P (.int (challengeM q t))) : ∃ r, F_challenge [.int q, .str t] r ∧ (∀ d, r = .ok d → P d) ∧ (∀ er, r = .error er → R er) := use0 ⟨_, _, rfl, hq, rfl⟩ k
/-- numbers whose texts are short -/
def Sm (ns : List Int) : Prop := ns.length ≤ 5 ∧ ∀ n ∈ ns, 0 ≤ n ∧ n < 8192
def F_joined_text (ds : List PyData) (r : Except Er PyData) : Prop := ∃ (word : Str) (ns : List Int), ds = [.str word, .list (ns.map .int)] ∧ word.length ≤ 1000 ∧ Sm ns ∧ r = .ok (.str (joinedM word ns))
theorem l_joined_text (ds : List PyData) (r : Except Er PyData) (h : F_joined_text ds r) : ds.length = 2 := by obtain ⟨_, _, rfl, _⟩ := h; rfl
theorem u_joined_text {P : PyData → Prop} {R : Er → Prop} {word : Str} {ns : List Int} (h : word.length ≤ 1000 ∧ Sm ns) (k : P (.str (joinedM word ns))) : ∃ r, F_joined_text [.str word, .list (ns.map .int)] r ∧ (∀ d, r = .ok d → P d) ∧ (∀ er, r = .error er → R er) := use0 ⟨_, _, rfl, h.1, h.2, rfl⟩ k
def F_challenge_of (ds : List PyData) (r : Except Er PyData) : Prop := ∃ (q : Int) (word : Str) (ns : List Int), ds = [.int q, .str word, .list (ns.map .int)] ∧ 2 ≤ q ∧ word.length ≤ 1000 ∧ Sm ns ∧ r = .ok (.int (challengeM q (joinedM word ns)))
theorem l_challenge_of (ds : List PyData) (r : Except Er PyData) (h : F_challenge_of ds r) : ds.length = 3 := by obtain ⟨_, _, _, rfl, _⟩ := h; rfl
theorem u_challenge_of {P : PyData → Prop} {R : Er → Prop} {q : Int} {word : Str} {ns : List Int} (h : 2 ≤ q ∧ word.length ≤ 1000 ∧ Sm ns) (k : P (.int (challengeM q (joinedM word ns)))) : ∃ r, F_challenge_of [.int q, .str word, .list (ns.map .int)] r ∧ (∀ d, r = .ok d → P d) ∧ (∀ er, r = .error er → R er) := use0 ⟨_, _, _, rfl, h.1, h.2.1, h.2.2, rfl⟩ k
/-! ### texts of small numbers -/
theorem str_len' {n : Int} (h0 : 0 ≤ n) (h : n < 8192) : (strI n).length ≤ 4 := toString_length_le h0 (by decide) (by omega)
theorem log_sm {n : Int} (h0 : 0 ≤ n) (h : n < 8192) : n.natAbs.log2 < 1920 := by
  have h1 : n.natAbs < 2 ^ 13 := by omega
  by_cases hz : n.natAbs = 0
  · rw [hz]; decide
  · have := (Nat.log2_lt hz).mpr h1
    omega
theorem sum_sm : ∀ {ns : List Int}, (∀ n ∈ ns, 0 ≤ n ∧ n < 8192) → ((ns.map strI).map (·.length)).sum ≤ 4 * ns.length
  | [], _ => Nat.le_refl _
  | n :: r, h => by
    have h1 := h n List.mem_cons_self
    have h2 := str_len' h1.1 h1.2
    have ih := sum_sm (ns := r) fun m hm => h m (List.mem_cons_of_mem _ hm)
    simp only [List.map_cons, List.sum_cons, List.length_cons] at ih ⊢
    omega
section
variable {P : Program} {w : World} {K : PySem.W.Frag} {mg : Str → Option Value} {base : Heap} {ea : Er → Addr} {CE : Addr}
/-! ### coin -/
abbrev n_coin : List Str := ["seed", "n", "text", "value", "sign", "_"]
theorem sc_coin : FnScope n_coin ["seed", "n", "text"] (defScope scoin) := ⟨rfl, rfl, rfl, by decide +kernel, rfl, by decide +kernel, by decide +kernel⟩
theorem ok_coin (T : Tx K mg ea CE)  {f : Addr} {fd : FuncData} (G : FnP K "coin" scoin f fd) (hm : mg "coin" = some (.ref f)) : Callee P w K mg base CX0 1 "coin" (spF K ea F_coin) := by
  refine okV (k := 0) G hm sc_coin ?len (fun _ _ _ _ _ _ us hl => match us, hl with | [_, _, _], _ => rfl) fun cdv A outer s H _E hr => ?_
  case len => exact l_coin
  refine ⟨_, (pss_cons (ps_set (i := 3) sc_coin.nd rfl (.inl rfl) (pe_op op_mod (pe_op op_add (pe_op op_add (pe_op op_mul (pv 0) pe_int) (pe_op op_mul (pv 1) pe_int)) pe_int) (T.gMODULUS rfl rfl)))
      (pss_cons (ps_for PassesOwn.never rfl (pi_str (pv 2)) (pg_name (i := 4) sc_coin.nd rfl (.inl rfl)) (pss_one (ps_set (i := 3) sc_coin.nd rfl (.inl rfl) (pe_op op_mod (pe_op op_add (pe_op op_add (pe_op op_mul (pv 3) pe_int) (pe_callB call_ord rfl T.ford boot_ord (pa_cons (pv 4) pa_nil))) pe_int) (T.gMODULUS rfl rfl)))))
      (pss_cons (ps_for PassesOwn.never rfl (pi_range1 rfl T.frange (pa_cons pe_int pa_nil)) (pg_name (i := 5) sc_coin.nd rfl (.inl rfl)) (pss_one (ps_set (i := 3) sc_coin.nd rfl (.inl rfl) (pe_op op_mod (pe_op op_add (pe_op op_mul (pv 3) pe_int) pe_int) (T.gMODULUS rfl rfl)))))
      (pss_one (ps_ret (pe_op op_mod (pe_op op_fdiv (pv 3) pe_int) (T.gSIDES rfl rfl))))))), fun ds r hF => ?_⟩
  obtain ⟨seed, n, t, rfl, rfl⟩ := hF
  refine sa_seq ?_
  refine sa_asg (vl_op (vl_op (vl_op (vl_op (vl_var rfl (vl_int (op_I ?_ (vl_op (vl_var rfl (vl_int (op_I ?_ (op_I0 (vl_int (op_I0 (vl_int (op_I ?_ (ga_name (.inl rfl) ?_)))))))))))))))))
  · exact .inr (by decide)
  · exact .inr (by decide)
  · decide
  refine sa_seq ?_
  refine sa_for (iw_str (vl_var rfl ⟨_, rfl, ⟨fun i e => ∃ y, e = ⟨[some (.int seed), some (.int n), some (.str t), some (.int ((t.cps.toList.take i).foldl coinStep ((seed * 31 + n * 1009 + 11) % 2147483647))), y, none], none⟩, ⟨_, rfl⟩, fun i d e hd hI => ?_, fun e hI => ?_⟩⟩))
  · obtain ⟨y, rfl⟩ := hI
    rw [List.getElem?_map] at hd
    cases hc : t.cps.toList[i]? with
    | none => rw [hc] at hd; cases hd
    | some c =>
      rw [hc] at hd
      cases hd
      refine ga_name (.inl rfl) ?_
      refine sa_asg (vl_op (vl_op (vl_op (vl_op (vl_var rfl (vl_int (op_I ?_ (vl_ord (vl_var rfl ⟨_, rfl, (op_I0 (vl_int (op_I0 (vl_int (op_I ?_ (ga_name (.inl rfl) ?_))))))⟩)))))))))
      · exact .inr (by decide)
      · decide
      · refine ⟨some (.str ⟨#[c]⟩), ?_⟩
        rw [foldl_more coinStep _ hc]
        rfl
  obtain ⟨y, rfl⟩ := hI
  refine sa_seq ?_
  rw [List.length_map, List.take_length]
  refine sa_for (iw_range (vl_int ⟨_, rfl, by decide, by decide, ⟨fun i e => ∃ z, e = ⟨[some (.int seed), some (.int n), some (.str t), some (.int (Nat.repeat coinTurn i (t.cps.toList.foldl coinStep ((seed * 31 + n * 1009 + 11) % 2147483647)))), y, z], none⟩, ⟨_, rfl⟩, fun i d e hd hI => ?_, fun e hI => ?_⟩⟩))
  · obtain ⟨z, rfl⟩ := hI
    have hf : flat d = true := by
      rw [List.getElem?_map] at hd
      cases hx : (List.range (Int.toNat 3))[i]? with
      | none => rw [hx] at hd; cases hd
      | some c => rw [hx] at hd; cases hd; rfl
    refine ga_name (.inl hf) ?_
    refine sa_asg (vl_op (vl_op (vl_op (vl_var rfl (vl_int (op_I ?_ (vl_int (op_I0 (vl_int (op_I ?_ (ga_name (.inl rfl) ?_)))))))))))
    · exact .inr (by decide)
    · decide
    · exact ⟨_, rfl⟩
  obtain ⟨z, rfl⟩ := hI
  refine sa_ret (vl_op (vl_op (vl_var rfl (vl_int (op_I ?_ (vl_int (op_I ?_ ?_)))))))
  · exact ⟨by decide, by decide⟩
  · decide
  · rfl
/-! ### challenge -/
abbrev n_challenge : List Str := ["q", "text"]
theorem sc_challenge : FnScope n_challenge ["q", "text"] (defScope schallenge) := ⟨rfl, rfl, rfl, by decide +kernel, rfl, by decide +kernel, by decide +kernel⟩
theorem ok_challenge (T : Tx K mg ea CE) (c_coin : Callee P w K mg base CX0 1 "coin" (spF K ea F_coin)) {f : Addr} {fd : FuncData} (G : FnP K "challenge" schallenge f fd) (hm : mg "challenge" = some (.ref f)) : Callee P w K mg base CX0 2 "challenge" (spF K ea F_challenge) := by
  refine okV (k := 1) G hm sc_challenge ?len (fun _ _ _ _ _ _ us hl => match us, hl with | [_, _], _ => rfl) fun cdv A outer s H _E hr => ?_
  case len => exact l_challenge
  refine ⟨_, (pss_one (ps_ret (pe_op op_add pe_int (pe_op op_mod (c_coin.c0 (W := W0) hr rfl (pa_cons pe_int (pa_cons (pv 0) (pa_cons (pv 1) pa_nil)))) (pe_op op_sub (pv 0) pe_int))))), fun ds r hF => ?_⟩
  obtain ⟨q, t, rfl, hq, rfl⟩ := hF
  refine sa_ret (vl_op (vl_int (vl_op (vl_call (va_cons (vl_int (va_cons (vl_var rfl (va_cons (vl_var rfl (va_nil (u_coin trivial (vl_op (vl_var rfl (vl_int (op_I0 (op_I ?_ (op_I0 ?_))))))))))))))))))
  · show 0 < q - 1
    omega
  · rfl
/-! ### joined_text -/
abbrev n_joined_text : List Str := ["word", "numbers", "number"]
theorem sc_joined_text : FnScope n_joined_text ["word", "numbers"] (defScope sjoined_text) := ⟨rfl, rfl, rfl, by decide +kernel, rfl, by decide +kernel, by decide +kernel⟩
theorem ok_joined_text (T : Tx K mg ea CE)  {f : Addr} {fd : FuncData} (G : FnP K "joined_text" sjoined_text f fd) (hm : mg "joined_text" = some (.ref f)) : Callee P w K mg base CX0 1 "joined_text" (spF K ea F_joined_text) := by
  refine okV (k := 0) G hm sc_joined_text ?len (fun _ _ _ _ _ _ us hl => match us, hl with | [_, _], _ => rfl) fun cdv A outer s H _E hr => ?_
  case len => exact l_joined_text
  refine ⟨_, (pss_one (ps_ret (pe_bm PySem.F.plainAttrs_str PySem.F.slot_str_join PySem.F.type_str_join mt_join pe_str (pa_cons (pe_op op_cat (pe_lst (pa_cons (pv 0) pa_nil)) (pe_lc (own := [("number", 2)]) (g := gName 2) (tt := tYes) rfl sc_joined_text.nd (pi_list (pv 1)) (blkOk_by (N := n_joined_text) (sc := defScope sjoined_text) (by decide +kernel)) (fun _ _ _ _ _ => (pg_name (i := 2) sc_joined_text.nd rfl (Or.inl rfl) (hf := .inr rfl))) (fun _ _ _ _ _ => pts_nil) (fun _ _ _ _ _ => (pe_callTy call_str_int rfl T.fstr boot_str (pa_cons (pv 2) pa_nil))))) pa_nil)))), fun ds r hF => ?_⟩
  obtain ⟨word, ns, rfl, hw, hs, rfl⟩ := hF
  refine sa_ret (vl_join (vl_str ⟨_, rfl, (vl_vn (vn_cat (vl_vn (vn_lst (va_cons (vl_var rfl (va_nil ⟨fl_ rfl, ln_ rfl, ⟨_, rfl, (vl_vn (vn_lc1 (iw_list rfl (vl_var rfl ⟨_, rfl, ⟨ns.map fun n => .str (strI n), ?_, ?_, ⟨_, rfl, ?_, ⟨word :: ns.map strI, ?_, ?_, ?_⟩⟩, ?_⟩⟩))))⟩⟩)))))))⟩))
  · simp
  · have := hs.1
    simp
    omega
  · have := hs.1
    simp
    omega
  · simp
  · have h1 := sum_sm hs.2
    have h2 := hs.1
    have h3 : (Str.ofString " ").length = 1 := by decide +kernel
    simp only [List.map_cons, List.sum_cons, List.length_cons, List.length_map, h3] at h1 ⊢
    omega
  · rw [TL.join_eq]
    rfl
  · intro k d r hd hr'
    rw [List.getElem?_map] at hd hr'
    cases hn : ns[k]? with
    | none => rw [hn] at hd; cases hd
    | some n =>
      rw [hn] at hd hr'
      cases hd
      cases hr'
      have hn' := hs.2 n (List.mem_of_getElem? hn)
      exact ⟨rfl, rfl, vl_strI (vl_var rfl ⟨_, rfl, log_sm hn'.1 hn'.2, rfl⟩)⟩
/-! ### challenge_of -/
abbrev n_challenge_of : List Str := ["q", "word", "numbers"]
theorem sc_challenge_of : FnScope n_challenge_of ["q", "word", "numbers"] (defScope schallenge_of) := ⟨rfl, rfl, rfl, by decide +kernel, rfl, by decide +kernel, by decide +kernel⟩
theorem ok_challenge_of (T : Tx K mg ea CE) (c_challenge : Callee P w K mg base CX0 2 "challenge" (spF K ea F_challenge)) (c_joined_text : Callee P w K mg base CX0 1 "joined_text" (spF K ea F_joined_text)) {f : Addr} {fd : FuncData} (G : FnP K "challenge_of" schallenge_of f fd) (hm : mg "challenge_of" = some (.ref f)) : Callee P w K mg base CX0 3 "challenge_of" (spF K ea F_challenge_of) := by
  refine okV (k := 2) G hm sc_challenge_of ?len (fun _ _ _ _ _ _ us hl => match us, hl with | [_, _, _], _ => rfl) fun cdv A outer s H _E hr => ?_
  case len => exact l_challenge_of
  refine ⟨_, (pss_one (ps_ret (c_challenge.c0 (W := W0) hr rfl (pa_cons (pv 0) (pa_cons (c_joined_text.c0 (W := W0) (hr.mono (by decide)) rfl (pa_cons (pv 1) (pa_cons (pv 2) pa_nil))) pa_nil))))), fun ds r hF => ?_⟩
  obtain ⟨q, word, ns, rfl, hq, hw, hs, rfl⟩ := hF
  refine sa_ret (vl_call (va_cons (vl_var rfl (va_cons (vl_call (va_cons (vl_var rfl (va_cons (vl_var rfl (va_nil (u_joined_text ?_ (va_nil (u_challenge ?_ ?_)))))))))))))
  · exact ⟨hw, hs⟩
  · exact hq
  · rfl
end
end Ck
set_option Elab.async false
set_option linter.all false
set_option autoImplicit false
set_option maxRecDepth 100000
set_option maxHeartbeats 1000000
/-! P2: groups. -/
namespace Ck
open PySem PySem.Spec PyProof.Rows L2 Fw Evl
/-! ### powers, modulo -/
theorem mulc {a b c d m : Int} (h1 : a % m = b % m) (h2 : c % m = d % m) : (a * c) % m = (b * d) % m := by
  rw [Int.mul_emod, h1, h2, ← Int.mul_emod]
theorem powc {a b m : Int} (h : a % m = b % m) : ∀ n : Nat, (a ^ n) % m = (b ^ n) % m
  | 0 => by rw [Int.pow_zero, Int.pow_zero]
  | n + 1 => by
    rw [Int.pow_succ, Int.pow_succ]
    exact mulc (powc h n) h
theorem pow_mod (b m : Int) (n : Nat) : (b % m) ^ n % m = b ^ n % m := powc (Int.emod_emod_of_dvd b (Int.dvd_refl m)) n
theorem sq_pow (s : Int) (k : Nat) : s ^ (2 * k) = (s * s) ^ k := by
  rw [Int.pow_mul]
  congr 1
  rw [Int.pow_succ, Int.pow_succ, Int.pow_zero, Int.one_mul]
theorem ras_odd {v s m : Int} {k : Nat} : (v * s % m) * (s * s % m) ^ k % m = v * s ^ (2 * k + 1) % m := by
  have h1 : (v * s % m) % m = (v * s) % m := Int.emod_emod_of_dvd _ (Int.dvd_refl m)
  have h2 := pow_mod (s * s) m k
  rw [mulc h1 h2, Int.pow_succ, sq_pow, Int.mul_assoc, Int.mul_comm s, ]
theorem ras_even {v s m : Int} {k : Nat} : v * (s * s % m) ^ k % m = v * s ^ (2 * k) % m := by
  rw [mulc rfl (pow_mod (s * s) m k), sq_pow]
/-! ### promises -/
def F_raised (ds : List PyData) (r : Except Er PyData) : Prop := ∃ b e m : Int, ds = [.int b, .int e, .int m] ∧ 2 ≤ m ∧ m ≤ 4096 ∧ r = .ok (.int (pw b e m))
theorem l_raised (ds : List PyData) (r : Except Er PyData) (h : F_raised ds r) : ds.length = 3 := by obtain ⟨_, _, _, rfl, _⟩ := h; rfl
theorem u_raised {P : PyData → Prop} {R : Er → Prop} {b e m : Int} (h : 2 ≤ m ∧ m ≤ 4096) (k : P (.int (pw b e m))) : ∃ r, F_raised [.int b, .int e, .int m] r ∧ (∀ d, r = .ok d → P d) ∧ (∀ er, r = .error er → R er) := use0 ⟨_, _, _, rfl, h.1, h.2, rfl⟩ k
/-- an order's size -/
def Od (q : Int) : Prop := 11 ≤ q ∧ q ≤ 1013
def F_is_element (ds : List PyData) (r : Except Er PyData) : Prop := ∃ q v : Int, ds = [.int q, .int v] ∧ Od q ∧ r = .ok (.bool (isEl q v))
theorem l_is_element (ds : List PyData) (r : Except Er PyData) (h : F_is_element ds r) : ds.length = 2 := by obtain ⟨_, _, rfl, _⟩ := h; rfl
theorem u_is_element {P : PyData → Prop} {R : Er → Prop} {q v : Int} (h : Od q) (k : P (.bool (isEl q v))) : ∃ r, F_is_element [.int q, .int v] r ∧ (∀ d, r = .ok d → P d) ∧ (∀ er, r = .error er → R er) := use0 ⟨_, _, rfl, h, rfl⟩ k
/-- what a check hands back -/
def ckR (b : Bool) : Except Er PyData := if b = true then .ok .none else .error .na
theorem useC {F : List PyData → Except Er PyData → Prop} {ds : List PyData} {b : Bool} {P : PyData → Prop} {R : Er → Prop} (hF : F ds (ckR b)) (h1 : b = true → P .none) (h2 : b = false → R .na) : ∃ r, F ds r ∧ (∀ d, r = .ok d → P d) ∧ (∀ er, r = .error er → R er) := by
  cases b with
  | true => exact use0 hF (h1 rfl)
  | false => exact useE hF (h2 rfl)
def F_check_element (ds : List PyData) (r : Except Er PyData) : Prop := ∃ q v : Int, ds = [.int q, .int v] ∧ Od q ∧ r = ckR (isEl q v)
theorem l_check_element (ds : List PyData) (r : Except Er PyData) (h : F_check_element ds r) : ds.length = 2 := by obtain ⟨_, _, rfl, _⟩ := h; rfl
theorem u_check_element {P : PyData → Prop} {R : Er → Prop} {q v : Int} (h : Od q) (h1 : isEl q v = true → P .none) (h2 : isEl q v = false → R .na) : ∃ r, F_check_element [.int q, .int v] r ∧ (∀ d, r = .ok d → P d) ∧ (∀ er, r = .error er → R er) := useC ⟨_, _, rfl, h, rfl⟩ h1 h2
def F_power (ds : List PyData) (r : Except Er PyData) : Prop := ∃ q b x : Int, ds = [.int q, .int b, .int x] ∧ Od q ∧ r = (powerM q b x).map .int
theorem l_power (ds : List PyData) (r : Except Er PyData) (h : F_power ds r) : ds.length = 3 := by obtain ⟨_, _, _, rfl, _⟩ := h; rfl
theorem u_power {P : PyData → Prop} {R : Er → Prop} {q b x : Int} (h : Od q) (h1 : ∀ v, powerM q b x = .ok v → P (.int v)) (h2 : ∀ er, powerM q b x = .error er → R er) : ∃ r, F_power [.int q, .int b, .int x] r ∧ (∀ d, r = .ok d → P d) ∧ (∀ er, r = .error er → R er) := useX ⟨_, _, _, rfl, h, rfl⟩ h1 h2
def F_product (ds : List PyData) (r : Except Er PyData) : Prop := ∃ q b x : Int, ds = [.int q, .int b, .int x] ∧ Od q ∧ r = (productM q b x).map .int
theorem l_product (ds : List PyData) (r : Except Er PyData) (h : F_product ds r) : ds.length = 3 := by obtain ⟨_, _, _, rfl, _⟩ := h; rfl
theorem u_product {P : PyData → Prop} {R : Er → Prop} {q b x : Int} (h : Od q) (h1 : ∀ v, productM q b x = .ok v → P (.int v)) (h2 : ∀ er, productM q b x = .error er → R er) : ∃ r, F_product [.int q, .int b, .int x] r ∧ (∀ d, r = .ok d → P d) ∧ (∀ er, r = .error er → R er) := useX ⟨_, _, _, rfl, h, rfl⟩ h1 h2
def F_product_of_powers (ds : List PyData) (r : Except Er PyData) : Prop := ∃ (q : Int) (l : List (Int × Int)), ds = [.int q, .list (l.map fun p => .int p.1), .list (l.map fun p => .int p.2)] ∧ Od q ∧ r = (ppM q l 1).map .int
theorem l_product_of_powers (ds : List PyData) (r : Except Er PyData) (h : F_product_of_powers ds r) : ds.length = 3 := by obtain ⟨_, _, rfl, _⟩ := h; rfl
/-- four bases -/
theorem u_product_of_powers {P : PyData → Prop} {R : Er → Prop} {q b0 b1 b2 b3 x0 x1 x2 x3 : Int} (h : Od q) (h1 : ∀ v, ppM q [(b0, x0), (b1, x1), (b2, x2), (b3, x3)] 1 = .ok v → P (.int v)) (h2 : ∀ er, ppM q [(b0, x0), (b1, x1), (b2, x2), (b3, x3)] 1 = .error er → R er) :
    ∃ r, F_product_of_powers [.int q, .list [.int b0, .int b1, .int b2, .int b3], .list [.int x0, .int x1, .int x2, .int x3]] r ∧ (∀ d, r = .ok d → P d) ∧ (∀ er, r = .error er → R er) := useX ⟨q, [(b0, x0), (b1, x1), (b2, x2), (b3, x3)], rfl, h, rfl⟩ h1 h2
/-- a logarithm that there is, if it is asked for -/
def LogOk (q b v : Int) : Prop := isEl q b = true → isEl q v = true → b ≠ 1 → ∃ k : Nat, k < q.toNat ∧ b ^ k % (2 * q + 1) = v
def F_logarithm (ds : List PyData) (r : Except Er PyData) : Prop := ∃ q b v : Int, ds = [.int q, .int b, .int v] ∧ Od q ∧ LogOk q b v ∧ r = (logM q b v).map .int
theorem l_logarithm (ds : List PyData) (r : Except Er PyData) (h : F_logarithm ds r) : ds.length = 3 := by obtain ⟨_, _, _, rfl, _⟩ := h; rfl
theorem u_logarithm {P : PyData → Prop} {R : Er → Prop} {q b v : Int} (h : Od q ∧ LogOk q b v) (h1 : ∀ x, logM q b v = .ok x → P (.int x)) (h2 : ∀ er, logM q b v = .error er → R er) : ∃ r, F_logarithm [.int q, .int b, .int v] r ∧ (∀ d, r = .ok d → P d) ∧ (∀ er, r = .error er → R er) := useX ⟨_, _, _, rfl, h.1, h.2, rfl⟩ h1 h2
def F_quotient (ds : List PyData) (r : Except Er PyData) : Prop := ∃ q a b : Int, ds = [.int q, .int a, .int b] ∧ Od q ∧ r = (quoM q a b).map .int
theorem l_quotient (ds : List PyData) (r : Except Er PyData) (h : F_quotient ds r) : ds.length = 3 := by obtain ⟨_, _, _, rfl, _⟩ := h; rfl
theorem u_quotient {P : PyData → Prop} {R : Er → Prop} {q b x : Int} (h : Od q) (h1 : ∀ v, quoM q b x = .ok v → P (.int v)) (h2 : ∀ er, quoM q b x = .error er → R er) : ∃ r, F_quotient [.int q, .int b, .int x] r ∧ (∀ d, r = .ok d → P d) ∧ (∀ er, r = .error er → R er) := useX ⟨_, _, _, rfl, h, rfl⟩ h1 h2
/-! ### facts of the plain functions -/
theorem isEl_inv {q v : Int} (h : isEl q v = true) : 0 < v ∧ v < 2 * q + 1 ∧ pw v q (2 * q + 1) = 1 := by
  unfold isEl at h
  simp only [Bool.and_eq_true, decide_eq_true_eq] at h
  exact ⟨h.1, h.2.1, h.2.2⟩
theorem pw_rng {b e m : Int} (h : 0 < m) : 0 ≤ pw b e m ∧ pw b e m < m := mod_rng _ _ h
/-- the first place at which it holds -/
theorem find_first {f : Nat → Bool} {n k : Nat} (hk : k < n) (h1 : f k = true) (h0 : ∀ j, j < k → f j = false) : (List.range n).find? f = some k := by
  rw [List.find?_range_eq_some]
  refine ⟨h1, by simpa using hk, fun j hj => ?_⟩
  simpa using h0 j hj
section
variable {P : Program} {w : World} {K : PySem.W.Frag} {mg : Str → Option Value} {base : Heap} {ea : Er → Addr} {CE : Addr}
/-! ### raised -/
abbrev n_raised : List Str := ["base", "exponent", "modulus", "value", "square"]
theorem sc_raised : FnScope n_raised ["base", "exponent", "modulus"] (defScope sraised) := ⟨rfl, rfl, rfl, by decide +kernel, rfl, by decide +kernel, by decide +kernel⟩
theorem ok_raised (T : Tx K mg ea CE)  {f : Addr} {fd : FuncData} (G : FnP K "raised" sraised f fd) (hm : mg "raised" = some (.ref f)) : Callee P w K mg base CX0 1 "raised" (spF K ea F_raised) := by
  refine okV (k := 0) G hm sc_raised ?len (fun _ _ _ _ _ _ us hl => match us, hl with | [_, _, _], _ => rfl) fun cdv A outer s H _E hr => ?_
  case len => exact l_raised
  refine ⟨_, (pss_cons (ps_set (i := 3) sc_raised.nd rfl (.inl rfl) pe_int)
      (pss_cons (ps_set (i := 4) sc_raised.nd rfl (.inl rfl) (pe_op op_mod (pv 0) (pv 2)))
      (pss_cons (ps_while PassesOwn.never (pt_cmpR op_gt (pv 1) pe_int (nomark _)) (pss_cons (ps_if (pt_cmpR op_eq (pe_op op_mod (pv 1) pe_int) pe_int (nomark _)) (pss_one (ps_set (i := 3) sc_raised.nd rfl (.inl rfl) (pe_op op_mod (pe_op op_mul (pv 3) (pv 4)) (pv 2)))) pss_nil)
      (pss_cons (ps_set (i := 4) sc_raised.nd rfl (.inl rfl) (pe_op op_mod (pe_op op_mul (pv 4) (pv 4)) (pv 2)))
      (pss_one (ps_aug (i := 1) sc_raised.nd rfl (.inl rfl) pe_int ip_fdiv)))))
      (pss_one (ps_ret (pv 3)))))), fun ds r hF => ?_⟩
  obtain ⟨b, x0, m, rfl, hm1, hm2, rfl⟩ := hF
  refine sa_seq ?_
  refine sa_asg (vl_int (ga_name (.inl rfl) ?_))
  refine sa_seq ?_
  refine sa_asg (vl_op (vl_var rfl (vl_var rfl (op_I ?_ (ga_name (.inl rfl) ?_)))))
  · show 0 < m
    omega
  refine sa_seq ?_
  refine sa_while (fun n e => ∃ x v s : Int, n = x.toNat ∧ e = ⟨[some (.int b), some (.int x), some (.int m), some (.int v), some (.int s)], none⟩ ∧ 0 ≤ v ∧ v < m ∧ 0 ≤ s ∧ s < m ∧ v * s ^ x.toNat % m = b ^ x0.toNat % m) x0.toNat ?_ fun n e' hI => ?_
  · refine ⟨x0, 1, b % m, rfl, rfl, by omega, by omega, (mod_rng _ _ (by omega)).1, (mod_rng _ _ (by omega)).2, ?_⟩
    rw [Int.one_mul, pow_mod]
  · obtain ⟨x, v, s, rfl, rfl, v0, v1, s0, s1, hI⟩ := hI
    refine (vt_test (vl_op (vl_var rfl (vl_int (op_B0 ⟨_, rfl, ⟨fun h => ?_, fun h => ?_⟩⟩)))))
    · have hx : 0 < x := of_decide_eq_true h
      have hs : CMul s s := .inl ⟨by omega, by omega⟩
      refine sa_seq ?_
      refine sa_if (vt_test (vl_op (vl_op (vl_var rfl (vl_int (op_I ?_ (vl_int (op_eqI ⟨_, rfl, ⟨fun h => ?_, fun h => ?_⟩⟩))))))))
      · decide
      ·
        have hx1 : x % 2 = 1 := of_decide_eq_true h
        refine sa_asg (vl_op (vl_op (vl_var rfl (vl_var rfl (op_I ?_ (vl_var rfl (op_I ?_ (ga_name (.inl rfl) ?_))))))))
        · exact .inl ⟨by omega, by omega⟩
        · show 0 < m
          omega
        refine sa_seq ?_
        refine sa_asg (vl_op (vl_op (vl_var rfl (vl_var rfl (op_I ?_ (vl_var rfl (op_I ?_ (ga_name (.inl rfl) ?_))))))))
        · exact hs
        · show 0 < m
          omega
        refine sa_aug rfl (vl_int (op_I ?_ ⟨.inl rfl, ?_⟩))
        · exact ⟨by decide, by decide⟩
        refine ⟨(x / 2).toNat, by omega, x / 2, v * s % m, s * s % m, rfl, rfl, (mod_rng _ _ (by omega)).1, (mod_rng _ _ (by omega)).2, (mod_rng _ _ (by omega)).1, (mod_rng _ _ (by omega)).2, ?_⟩
        rw [← hI, ras_odd]
        congr 2
        congr 1
        omega
      · have hx1 : ¬ x % 2 = 1 := of_decide_eq_false h
        refine sa_next ?_
        refine sa_seq ?_
        refine sa_asg (vl_op (vl_op (vl_var rfl (vl_var rfl (op_I ?_ (vl_var rfl (op_I ?_ (ga_name (.inl rfl) ?_))))))))
        · exact hs
        · show 0 < m
          omega
        refine sa_aug rfl (vl_int (op_I ?_ ⟨.inl rfl, ?_⟩))
        · exact ⟨by decide, by decide⟩
        refine ⟨(x / 2).toNat, by omega, x / 2, v, s * s % m, rfl, rfl, v0, v1, (mod_rng _ _ (by omega)).1, (mod_rng _ _ (by omega)).2, ?_⟩
        rw [← hI, ras_even]
        congr 2
        congr 1
        omega
    · have hx : ¬ 0 < x := of_decide_eq_false h
      refine sa_ret (vl_var rfl ?_)
      have e0 : x.toNat = 0 := by omega
      rw [e0, Int.pow_zero, Int.mul_one, Int.emod_eq_of_lt v0 v1] at hI
      rw [hI]
      rfl
/-! ### is_element -/
abbrev n_is_element : List Str := ["q", "value"]
theorem sc_is_element : FnScope n_is_element ["q", "value"] (defScope sis_element) := ⟨rfl, rfl, rfl, by decide +kernel, rfl, by decide +kernel, by decide +kernel⟩
theorem ok_is_element (T : Tx K mg ea CE) (c_raised : Callee P w K mg base CX0 1 "raised" (spF K ea F_raised)) {f : Addr} {fd : FuncData} (G : FnP K "is_element" sis_element f fd) (hm : mg "is_element" = some (.ref f)) : Callee P w K mg base CX0 2 "is_element" (spF K ea F_is_element) := by
  refine okV (k := 1) G hm sc_is_element ?len (fun _ _ _ _ _ _ us hl => match us, hl with | [_, _], _ => rfl) fun cdv A outer s H _E hr => ?_
  case len => exact l_is_element
  refine ⟨_, (pss_one (ps_ret (pe_and (pe_chain op_lt op_lt pe_int (pv 1) (pe_op op_add (pe_op op_mul pe_int (pv 0)) pe_int)) (pe_one (pe_cmpR op_eq (c_raised.c0 (W := W0) hr rfl (pa_cons (pv 1) (pa_cons (pv 0) (pa_cons (pe_op op_add (pe_op op_mul pe_int (pv 0)) pe_int) pa_nil)))) pe_int (nomark _)))))), fun ds r hF => ?_⟩
  obtain ⟨q, v, rfl, hq, rfl⟩ := hF
  have hq1 := hq.1
  have hq2 := hq.2
  have hc : CMul 2 q := .inl ⟨by decide, by decide⟩
  refine sa_ret (vl_and (vl_chain (vl_int ⟨_, rfl, (vl_var rfl ⟨_, rfl, fun h => (vl_op (vl_op (vl_int (vl_var rfl (op_I hc (vl_int (op_I0 ⟨_, rfl, ⟨_, rfl, fun h2 => (vl_op (vl_call (va_cons (vl_var rfl (va_cons (vl_var rfl (va_cons (vl_op (vl_op (vl_int (vl_var rfl (op_I hc (vl_int (op_I0 (va_nil (u_raised ?_ (vl_int (op_eqI ?_)))))))))))))))))), fun h2 => ?_⟩⟩))))))), fun h => ⟨_, rfl, (fun z => nomatch z), fun _ => ?_⟩⟩)⟩)))
  · constructor <;> omega
  · show Except.ok _ = Except.ok _
    unfold isEl
    rw [h, h2]
    rfl
  · show Except.ok _ = Except.ok _
    unfold isEl
    rw [h, h2]
    rfl
  · show Except.ok _ = Except.ok _
    unfold isEl
    rw [h]
    rfl
/-! ### check_element -/
abbrev n_check_element : List Str := ["q", "value"]
theorem sc_check_element : FnScope n_check_element ["q", "value"] (defScope scheck_element) := ⟨rfl, rfl, rfl, by decide +kernel, rfl, by decide +kernel, by decide +kernel⟩
theorem ok_check_element (T : Tx K mg ea CE) (c_is_element : Callee P w K mg base CX0 2 "is_element" (spF K ea F_is_element)) {f : Addr} {fd : FuncData} (G : FnP K "check_element" scheck_element f fd) (hm : mg "check_element" = some (.ref f)) : Callee P w K mg base (L2.CX P w) 3 "check_element" (spF K ea F_check_element) := by
  refine okX (k := 2) G hm sc_check_element ?len (fun _ _ _ _ _ _ us hl => match us, hl with | [_, _], _ => rfl) fun cdv A outer s H E hr => ?_
  case len => exact l_check_element
  refine ⟨_, (pss_one (ps_if (pt_not (pt_val (c_is_element.c0 (W := (WF E)) hr rfl (pa_cons (pv 0) (pa_cons (pv 1) pa_nil))))) (pss_one (ps_rse (W := (WF E)) rfl (takes_of rfl rfl rfl rfl) T.xNA T.gNA T.kNA T.bNA T.tNA rfl)) pss_nil)), fun ds r hF => ?_⟩
  obtain ⟨q, v, rfl, hq, rfl⟩ := hF
  refine sa_if (vt_not (vt_B (vl_call (va_cons (vl_var rfl (va_cons (vl_var rfl (va_nil (u_is_element ?_ ⟨_, rfl, ⟨fun h => ?_, fun h => ?_⟩⟩)))))))))
  · exact hq
  ·
    refine sa_raise ?_
    have h' : isEl q v = false := by simpa using h
    rw [h']
    rfl
  · refine sa_next ?_
    have h' : isEl q v = true := by simpa using h
    rw [h']
    rfl
/-! ### power -/
abbrev n_power : List Str := ["q", "base", "exponent"]
theorem sc_power : FnScope n_power ["q", "base", "exponent"] (defScope spower) := ⟨rfl, rfl, rfl, by decide +kernel, rfl, by decide +kernel, by decide +kernel⟩
theorem ok_power (T : Tx K mg ea CE) (c_raised : Callee P w K mg base CX0 1 "raised" (spF K ea F_raised)) (c_check_element : Callee P w K mg base (L2.CX P w) 3 "check_element" (spF K ea F_check_element)) {f : Addr} {fd : FuncData} (G : FnP K "power" spower f fd) (hm : mg "power" = some (.ref f)) : Callee P w K mg base (L2.CX P w) 4 "power" (spF K ea F_power) := by
  refine okX (k := 3) G hm sc_power ?len (fun _ _ _ _ _ _ us hl => match us, hl with | [_, _, _], _ => rfl) fun cdv A outer s H E hr => ?_
  case len => exact l_power
  refine ⟨_, (pss_cons (ps_expr (c_check_element.cX (W := (WF E)) hr rfl (takes_of rfl rfl rfl rfl) (pa_cons (pv 0) (pa_cons (pv 1) pa_nil))))
      (pss_one (ps_ret (c_raised.c0 (W := (WF E)) (hr.mono (by decide)) rfl (pa_cons (pv 1) (pa_cons (pe_op op_mod (pv 2) (pv 0)) (pa_cons (pe_op op_add (pe_op op_mul pe_int (pv 0)) pe_int) pa_nil))))))), fun ds r hF => ?_⟩
  obtain ⟨q, b, x, rfl, hq, rfl⟩ := hF
  have hq1 := hq.1
  have hq2 := hq.2
  have hc : CMul 2 q := .inl ⟨by decide, by decide⟩
  refine sa_seq ?_
  refine sa_drop (vl_call (va_cons (vl_var rfl (va_cons (vl_var rfl (va_nil (u_check_element hq (fun hv => ?_) (fun hv => ?_))))))))
  ·
    refine sa_ret (vl_call (va_cons (vl_var rfl (va_cons (vl_op (vl_var rfl (vl_var rfl (op_I ?_ (va_cons (vl_op (vl_op (vl_int (vl_var rfl (op_I hc (vl_int (op_I0 (va_nil (u_raised ?_ ?_))))))))))))))))))
    · show 0 < q
      omega
    · constructor <;> omega
    · unfold powerM
      rw [if_pos hv]
      rfl
  · unfold powerM
    rw [hv]
    rfl
/-! ### product -/
abbrev n_product : List Str := ["q", "first", "second"]
theorem sc_product : FnScope n_product ["q", "first", "second"] (defScope sproduct) := ⟨rfl, rfl, rfl, by decide +kernel, rfl, by decide +kernel, by decide +kernel⟩
theorem ok_product (T : Tx K mg ea CE) (c_check_element : Callee P w K mg base (L2.CX P w) 3 "check_element" (spF K ea F_check_element)) {f : Addr} {fd : FuncData} (G : FnP K "product" sproduct f fd) (hm : mg "product" = some (.ref f)) : Callee P w K mg base (L2.CX P w) 4 "product" (spF K ea F_product) := by
  refine okX (k := 3) G hm sc_product ?len (fun _ _ _ _ _ _ us hl => match us, hl with | [_, _, _], _ => rfl) fun cdv A outer s H E hr => ?_
  case len => exact l_product
  refine ⟨_, (pss_cons (ps_expr (c_check_element.cX (W := (WF E)) hr rfl (takes_of rfl rfl rfl rfl) (pa_cons (pv 0) (pa_cons (pv 1) pa_nil))))
      (pss_cons (ps_expr (c_check_element.cX (W := (WF E)) hr rfl (takes_of rfl rfl rfl rfl) (pa_cons (pv 0) (pa_cons (pv 2) pa_nil))))
      (pss_one (ps_ret (pe_op op_mod (pe_op op_mul (pv 1) (pv 2)) (pe_op op_add (pe_op op_mul pe_int (pv 0)) pe_int)))))), fun ds r hF => ?_⟩
  obtain ⟨q, b, x, rfl, hq, rfl⟩ := hF
  have hq1 := hq.1
  have hq2 := hq.2
  have hc : CMul 2 q := .inl ⟨by decide, by decide⟩
  refine sa_seq ?_
  refine sa_drop (vl_call (va_cons (vl_var rfl (va_cons (vl_var rfl (va_nil (u_check_element hq (fun hv => ?_) (fun hv => ?_))))))))
  · refine sa_seq ?_
    refine sa_drop (vl_call (va_cons (vl_var rfl (va_cons (vl_var rfl (va_nil (u_check_element hq (fun hv2 => ?_) (fun hv2 => ?_))))))))
    · have hb := isEl_inv hv
      refine sa_ret (vl_op (vl_op (vl_var rfl (vl_var rfl (op_I ?_ (vl_op (vl_op (vl_int (vl_var rfl (op_I hc (vl_int (op_I0 (op_I ?_ ?_)))))))))))))
      · exact .inl ⟨by omega, by omega⟩
      · show 0 < 2 * q + 1
        omega
      · unfold productM
        rw [if_pos hv, if_pos hv2]
        rfl
    · unfold productM
      rw [if_pos hv, hv2]
      rfl
  · unfold productM
    rw [hv]
    rfl
/-! ### product_of_powers -/
abbrev n_product_of_powers : List Str := ["q", "bases", "exponents", "value", "base", "exponent"]
theorem sc_product_of_powers : FnScope n_product_of_powers ["q", "bases", "exponents"] (defScope sproduct_of_powers) := ⟨rfl, rfl, rfl, by decide +kernel, rfl, by decide +kernel, by decide +kernel⟩
theorem ok_product_of_powers (T : Tx K mg ea CE) (c_power : Callee P w K mg base (L2.CX P w) 4 "power" (spF K ea F_power)) {f : Addr} {fd : FuncData} (G : FnP K "product_of_powers" sproduct_of_powers f fd) (hm : mg "product_of_powers" = some (.ref f)) : Callee P w K mg base (L2.CX P w) 5 "product_of_powers" (spF K ea F_product_of_powers) := by
  refine okX (k := 4) G hm sc_product_of_powers ?len (fun _ _ _ _ _ _ us hl => match us, hl with | [_, _, _], _ => rfl) fun cdv A outer s H E hr => ?_
  case len => exact l_product_of_powers
  refine ⟨_, (pss_cons (ps_if (pt_cmpR op_ne (pe_callB call_len_seq rfl T.flen boot_len (pa_cons (pv 1) pa_nil)) (pe_callB call_len_seq rfl T.flen boot_len (pa_cons (pv 2) pa_nil)) (nomark _)) (pss_one (ps_rse (W := (WF E)) rfl (takes_of rfl rfl rfl rfl) T.xNA T.gNA T.kNA T.bNA T.tNA rfl)) pss_nil)
      (pss_cons (ps_set (i := 3) sc_product_of_powers.nd rfl (.inl rfl) pe_int)
      (pss_cons (ps_for (passes_of rfl) rfl (RZ.pi_zipA rfl T.fzip (pa_cons (pv 1) (pa_cons (pv 2) pa_nil))) (pg_tup rfl (pgs_cons (pg_name (i := 4) sc_product_of_powers.nd rfl (.inl rfl)) (pgs_cons (pg_name (i := 5) sc_product_of_powers.nd rfl (.inl rfl)) pgs_nil))) (pss_one (ps_set (i := 3) sc_product_of_powers.nd rfl (.inl rfl) (pe_op op_mod (pe_op op_mul (pv 3) (c_power.cX (W := (WF E)) hr rfl (takes_of rfl rfl rfl rfl) (pa_cons (pv 0) (pa_cons (pv 4) (pa_cons (pv 5) pa_nil))))) (pe_op op_add (pe_op op_mul pe_int (pv 0)) pe_int)))))
      (pss_one (ps_ret (pv 3)))))), fun ds r hF => ?_⟩
  obtain ⟨q, l, rfl, hq, rfl⟩ := hF
  have hq1 := hq.1
  have hq2 := hq.2
  have hc : CMul 2 q := .inl ⟨by decide, by decide⟩
  have key : ∀ (l' r' : List (Int × Int)) (v : Int), l = l' ++ r' → ppM q l 1 = ppM q r' v → True := fun _ _ _ _ _ => trivial
  refine sa_seq ?_
  refine sa_if (vt_test (vl_op (vl_len (vl_var rfl (.inl ⟨_, rfl, (vl_len (vl_var rfl (.inl ⟨_, rfl, (op_neI ⟨_, rfl, ⟨fun h => ?_, fun h => ?_⟩⟩)⟩)))⟩)))))
  · simp at h
  refine sa_next ?_
  refine sa_seq ?_
  refine sa_asg (vl_int (ga_name (.inl rfl) ?_))
  refine sa_seq ?_
  refine sa_for (iw_zipL rfl (vl_var rfl ⟨_, rfl, (vl_var rfl ⟨_, rfl, ⟨fun i e => ∃ (v : Int) (y z : Option PyData), e = ⟨[some (.int q), some (.list (l.map fun p => .int p.1)), some (.list (l.map fun p => .int p.2)), some (.int v), y, z], none⟩ ∧ 0 ≤ v ∧ v < 2 * q + 1 ∧ ppM q (l.drop i) v = ppM q l 1, ⟨1, none, none, rfl, by omega, by omega, by rw [List.drop_zero]⟩, fun i d e hd hI => ?_, fun e hI => ?_⟩⟩)⟩))
  · obtain ⟨v, y, z, rfl, v0, v1, hI⟩ := hI
    obtain ⟨a, b, ha, hb, rfl⟩ := Fw.zip_get hd
    rw [List.getElem?_map] at ha hb
    cases hp : l[i]? with
    | none => rw [hp] at ha; cases ha
    | some p =>
      rw [hp] at ha hb
      cases ha
      cases hb
      have hdr : l.drop i = p :: l.drop (i + 1) := by
        obtain ⟨hl, he⟩ := List.getElem?_eq_some_iff.mp hp
        rw [List.drop_eq_getElem_cons hl, he]
      rw [hdr] at hI
      refine (ga_tup rfl (gs_name (gs_name (gs_nil ?_))))
      refine sa_asg (vl_op (vl_op (vl_var rfl (vl_call (va_cons (vl_var rfl (va_cons (vl_var rfl (va_cons (vl_var rfl (va_nil (u_power hq (fun y hv => (op_I ?_ (vl_op (vl_op (vl_int (vl_var rfl (op_I hc (vl_int (op_I0 (op_I ?_ (ga_name (.inl rfl) ?_))))))))))) (fun er he => ?_)))))))))))))
      · exact .inl ⟨by omega, by omega⟩
      · show 0 < 2 * q + 1
        omega
      · refine ⟨v * y % (2 * q + 1), _, _, rfl, (mod_rng _ _ (by omega)).1, (mod_rng _ _ (by omega)).2, ?_⟩
        rw [← hI]
        show _ = (match powerM q p.1 p.2 with | .error e => Except.error e | .ok y => ppM q (l.drop (i + 1)) (v * y % (2 * q + 1)))
        rw [hv]
      · show (ppM q l 1).map PyData.int = Except.error er
        rw [← hI]
        have hs : ppM q (p :: l.drop (i + 1)) v = .error er := by
          show (match powerM q p.1 p.2 with | .error e => Except.error e | .ok y => ppM q (l.drop (i + 1)) (v * y % (2 * q + 1))) = _
          rw [he]
        rw [hs]
        rfl
  obtain ⟨v, y, z, rfl, v0, v1, hI⟩ := hI
  have hz : (List.zipWith (fun a b => PyData.tuple [a, b]) (l.map fun p => .int p.1) (l.map fun p => .int p.2)).length = l.length := by simp
  rw [hz, List.drop_length] at hI
  refine sa_ret (vl_var rfl ?_)
  show (ppM q l 1).map PyData.int = .ok (.int v)
  rw [← hI]
  rfl
/-! ### logarithm -/
abbrev n_logarithm : List Str := ["q", "base", "value", "exponent", "found"]
theorem sc_logarithm : FnScope n_logarithm ["q", "base", "value"] (defScope slogarithm) := ⟨rfl, rfl, rfl, by decide +kernel, rfl, by decide +kernel, by decide +kernel⟩
theorem ok_logarithm (T : Tx K mg ea CE) (c_check_element : Callee P w K mg base (L2.CX P w) 3 "check_element" (spF K ea F_check_element)) {f : Addr} {fd : FuncData} (G : FnP K "logarithm" slogarithm f fd) (hm : mg "logarithm" = some (.ref f)) : Callee P w K mg base (L2.CX P w) 4 "logarithm" (spF K ea F_logarithm) := by
  refine okX (k := 3) G hm sc_logarithm ?len (fun _ _ _ _ _ _ us hl => match us, hl with | [_, _, _], _ => rfl) fun cdv A outer s H E hr => ?_
  case len => exact l_logarithm
  refine ⟨_, (pss_cons (ps_expr (c_check_element.cX (W := (WF E)) hr rfl (takes_of rfl rfl rfl rfl) (pa_cons (pv 0) (pa_cons (pv 1) pa_nil))))
      (pss_cons (ps_expr (c_check_element.cX (W := (WF E)) hr rfl (takes_of rfl rfl rfl rfl) (pa_cons (pv 0) (pa_cons (pv 2) pa_nil))))
      (pss_cons (ps_if (pt_cmpR op_eq (pv 1) pe_int (nomark _)) (pss_one (ps_rse (W := (WF E)) rfl (takes_of rfl rfl rfl rfl) T.xNA T.gNA T.kNA T.bNA T.tNA rfl)) pss_nil)
      (pss_cons (ps_set (i := 3) sc_logarithm.nd rfl (.inl rfl) pe_int)
      (pss_cons (ps_set (i := 4) sc_logarithm.nd rfl (.inl rfl) pe_int)
      (pss_cons (ps_while (passes_of rfl) (pt_cmpR op_ne (pv 4) (pv 2) (nomark _)) (pss_cons (ps_set (i := 4) sc_logarithm.nd rfl (.inl rfl) (pe_op op_mod (pe_op op_mul (pv 4) (pv 1)) (pe_op op_add (pe_op op_mul pe_int (pv 0)) pe_int)))
      (pss_one (ps_aug (i := 3) sc_logarithm.nd rfl (.inl rfl) pe_int ip_add))))
      (pss_one (ps_ret (pv 3))))))))), fun ds r hF => ?_⟩
  obtain ⟨q, b, v, rfl, hq, hlog, rfl⟩ := hF
  have hq1 := hq.1
  have hq2 := hq.2
  have hc : CMul 2 q := .inl ⟨by decide, by decide⟩
  refine sa_seq ?_
  refine sa_drop (vl_call (va_cons (vl_var rfl (va_cons (vl_var rfl (va_nil (u_check_element hq (fun hv => ?_) (fun hv => ?_))))))))
  · refine sa_seq ?_
    refine sa_drop (vl_call (va_cons (vl_var rfl (va_cons (vl_var rfl (va_nil (u_check_element hq (fun hv2 => ?_) (fun hv2 => ?_))))))))
    · refine sa_seq ?_
      refine sa_if (vt_test (vl_op (vl_var rfl (vl_int (op_eqI ⟨_, rfl, ⟨fun h => ?_, fun h => ?_⟩⟩)))))
      ·
        have hb : b = 1 := of_decide_eq_true h
        refine sa_raise ?_
        show (logM q b v).map PyData.int = .error .na
        unfold logM
        rw [if_pos hv, if_pos hv2, if_pos hb]
        rfl
      have hb : ¬ b = 1 := of_decide_eq_false h
      refine sa_next ?_
      obtain ⟨k, hk, hkv⟩ := hlog hv hv2 hb
      have hbr := isEl_inv hv
      refine sa_seq ?_
      refine sa_asg (vl_int (ga_name (.inl rfl) ?_))
      refine sa_seq ?_
      refine sa_asg (vl_int (ga_name (.inl rfl) ?_))
      refine sa_seq ?_
      refine sa_while (fun n e => ∃ j : Nat, n = q.toNat - j ∧ j ≤ k ∧ e = ⟨[some (.int q), some (.int b), some (.int v), some (.int (j : Int)), some (.int (b ^ j % (2 * q + 1)))], none⟩ ∧ ∀ i, i < j → b ^ i % (2 * q + 1) ≠ v) q.toNat ?_ fun n e' hI => ?_
      · refine ⟨0, rfl, by omega, ?_, fun i hi => by omega⟩
        rw [Int.pow_zero, Int.emod_eq_of_lt (by omega) (by omega)]
        rfl
      · obtain ⟨j, rfl, hjk, rfl, hj⟩ := hI
        have hfr := mod_rng (b ^ j) (2 * q + 1) (by omega)
        refine (vt_test (vl_op (vl_var rfl (vl_var rfl (op_neI ⟨_, rfl, ⟨fun h => ?_, fun h => ?_⟩⟩)))))
        · have hne : b ^ j % (2 * q + 1) ≠ v := by simpa using h
          have hjk' : j < k := by
            rcases Nat.lt_or_eq_of_le hjk with h1 | h1
            · exact h1
            · rw [h1] at hne
              exact absurd hkv hne
          refine sa_seq ?_
          refine sa_asg (vl_op (vl_op (vl_var rfl (vl_var rfl (op_I ?_ (vl_op (vl_op (vl_int (vl_var rfl (op_I hc (vl_int (op_I0 (op_I ?_ (ga_name (.inl rfl) ?_))))))))))))))
          · exact .inl ⟨by omega, by omega⟩
          · show 0 < 2 * q + 1
            omega
          refine sa_aug rfl (vl_int (op_I0 ⟨.inl rfl, ?_⟩))
          refine ⟨q.toNat - (j + 1), by omega, j + 1, rfl, hjk', ?_, fun i hi => ?_⟩
          · have e1 : b ^ j % (2 * q + 1) * b % (2 * q + 1) = b ^ (j + 1) % (2 * q + 1) := by
              rw [Int.pow_succ]
              exact mulc (Int.emod_emod_of_dvd _ (Int.dvd_refl _)) rfl
            show (⟨[some (.int q), some (.int b), some (.int v), some (.int ((j : Int) + 1)), some (.int (b ^ j % (2 * q + 1) * b % (2 * q + 1)))], none⟩ : En) = _
            rw [e1]
            rfl
          · rcases Nat.lt_or_eq_of_le (Nat.le_of_lt_succ hi) with h1 | h1
            · exact hj i h1
            · rw [h1]
              exact hne
        · have heq : b ^ j % (2 * q + 1) = v := by simpa using h
          refine sa_ret (vl_var rfl ?_)
          show (logM q b v).map PyData.int = .ok (.int j)
          unfold logM
          rw [if_pos hv, if_pos hv2, if_neg hb, find_first (k := j) (by omega) (decide_eq_true heq) (fun i hi => decide_eq_false (hj i hi))]
          rfl
    · show (logM q b v).map PyData.int = .error .na
      unfold logM
      rw [if_pos hv, hv2]
      rfl
  · show (logM q b v).map PyData.int = .error .na
    unfold logM
    rw [hv]
    rfl
/-! ### quotient -/
abbrev n_quotient : List Str := ["q", "first", "second"]
theorem sc_quotient : FnScope n_quotient ["q", "first", "second"] (defScope squotient) := ⟨rfl, rfl, rfl, by decide +kernel, rfl, by decide +kernel, by decide +kernel⟩
theorem ok_quotient (T : Tx K mg ea CE) (c_raised : Callee P w K mg base CX0 1 "raised" (spF K ea F_raised)) {f : Addr} {fd : FuncData} (G : FnP K "quotient" squotient f fd) (hm : mg "quotient" = some (.ref f)) : Callee P w K mg base (L2.CX P w) 2 "quotient" (spF K ea F_quotient) := by
  refine okX (k := 1) G hm sc_quotient ?len (fun _ _ _ _ _ _ us hl => match us, hl with | [_, _, _], _ => rfl) fun cdv A outer s H E hr => ?_
  case len => exact l_quotient
  refine ⟨_, (pss_cons (ps_if (pt_cmpR op_eq (pe_op op_mod (pv 2) (pv 0)) pe_int (nomark _)) (pss_one (ps_rse (W := (WF E)) rfl (takes_of rfl rfl rfl rfl) T.xNA T.gNA T.kNA T.bNA T.tNA rfl)) pss_nil)
      (pss_one (ps_ret (pe_op op_mod (pe_op op_mul (pv 1) (c_raised.c0 (W := (WF E)) hr rfl (pa_cons (pv 2) (pa_cons (pe_op op_sub (pv 0) pe_int) (pa_cons (pv 0) pa_nil))))) (pv 0))))), fun ds r hF => ?_⟩
  obtain ⟨q, a, b, rfl, hq, rfl⟩ := hF
  have hq1 := hq.1
  have hq2 := hq.2
  have hq0 : 0 < q := by omega
  refine sa_seq ?_
  refine sa_if (vt_test (vl_op (vl_op (vl_var rfl (vl_var rfl (op_I ?_ (vl_int (op_eqI ⟨_, rfl, ⟨fun h => ?_, fun h => ?_⟩⟩))))))))
  · exact hq0
  ·
    refine sa_raise ?_
    have h' : b % q = 0 := of_decide_eq_true h
    show (quoM q a b).map PyData.int = .error .na
    unfold quoM
    rw [if_pos h']
    rfl
  have h' : ¬ b % q = 0 := of_decide_eq_false h
  refine sa_next ?_
  have hr' := pw_rng (b := b) (e := q - 2) hq0
  refine sa_ret (vl_op (vl_op (vl_var rfl (vl_call (va_cons (vl_var rfl (va_cons (vl_op (vl_var rfl (vl_int (op_I0 (va_cons (vl_var rfl (va_nil (u_raised ?_ (op_I ?_ (vl_var rfl (op_I ?_ ?_))))))))))))))))))
  · constructor <;> omega
  · exact .inr ⟨by omega, by omega⟩
  · exact hq0
  · show (quoM q a b).map PyData.int = _
    unfold quoM
    rw [if_neg h']
    rfl
end
end Ck
set_option Elab.async false
set_option linter.all false
set_option autoImplicit false
set_option maxRecDepth 100000
set_option maxHeartbeats 1000000
/-! P3: people, sessions, spends. -/
namespace Ck
open PySem PySem.Spec PyProof.Rows L2 Fw Evl
theorem bok {α β : Type} (a : α) (f : α → Except Er β) : (Except.ok a >>= f) = f a := rfl
theorem ber {α β : Type} (e : Er) (f : α → Except Er β) : ((Except.error e : Except Er α) >>= f) = .error e := rfl
theorem mok {α β : Type} (a : α) (f : α → β) : (Except.ok a : Except Er α).map f = .ok (f a) := rfl
theorem mer {α β : Type} (e : Er) (f : α → β) : (Except.error e : Except Er α).map f = .error e := rfl
theorem bind_ok {α β : Type} {x : Except Er α} {f : α → Except Er β} {b : β} (h : (x >>= f) = .ok b) : ∃ a, x = .ok a ∧ f a = .ok b := by
  cases x with
  | error e => cases h
  | ok a => exact ⟨a, rfl, h⟩
/-! ### promises -/
def F_is_exponent (ds : List PyData) (r : Except Er PyData) : Prop := ∃ q v : Int, ds = [.int q, .int v] ∧ r = .ok (.bool (isEx q v))
theorem l_is_exponent (ds : List PyData) (r : Except Er PyData) (h : F_is_exponent ds r) : ds.length = 2 := by obtain ⟨_, _, rfl, _⟩ := h; rfl
theorem u_is_exponent {P : PyData → Prop} {R : Er → Prop} {q v : Int} (_ : True) (k : P (.bool (isEx q v))) : ∃ r, F_is_exponent [.int q, .int v] r ∧ (∀ d, r = .ok d → P d) ∧ (∀ er, r = .error er → R er) := use0 ⟨_, _, rfl, rfl⟩ k
def F_check_person (ds : List PyData) (r : Except Er PyData) : Prop := ∃ (S : Su) (p : Pe), ds = [dSu S, dPe p] ∧ r = ckR (okPe S p)
theorem l_check_person (ds : List PyData) (r : Except Er PyData) (h : F_check_person ds r) : ds.length = 2 := by obtain ⟨_, _, rfl, _⟩ := h; rfl
theorem u_check_person {P : PyData → Prop} {R : Er → Prop} {S : Su} {p : Pe} (_ : True) (h1 : okPe S p = true → P .none) (h2 : okPe S p = false → R .na) : ∃ r, F_check_person [dSu S, dPe p] r ∧ (∀ d, r = .ok d → P d) ∧ (∀ er, r = .error er → R er) := useC ⟨_, _, rfl, rfl⟩ h1 h2
def F_plain_mark (ds : List PyData) (r : Except Er PyData) : Prop := ∃ (S : Su) (p : Pe), ds = [dSu S, dPe p] ∧ Od S.q ∧ r = (pmarkM S p).map .int
theorem l_plain_mark (ds : List PyData) (r : Except Er PyData) (h : F_plain_mark ds r) : ds.length = 2 := by obtain ⟨_, _, rfl, _⟩ := h; rfl
theorem u_plain_mark {P : PyData → Prop} {R : Er → Prop} {S : Su} {p : Pe} (h : Od S.q) (h1 : ∀ v, pmarkM S p = .ok v → P (.int v)) (h2 : ∀ er, pmarkM S p = .error er → R er) : ∃ r, F_plain_mark [dSu S, dPe p] r ∧ (∀ d, r = .ok d → P d) ∧ (∀ er, r = .error er → R er) := useX ⟨_, _, rfl, h, rfl⟩ h1 h2
def F_mark_of (ds : List PyData) (r : Except Er PyData) : Prop := ∃ (S : Su) (p : Pe), ds = [dSu S, dPe p] ∧ Od S.q ∧ r = (markM S p).map .int
theorem l_mark_of (ds : List PyData) (r : Except Er PyData) (h : F_mark_of ds r) : ds.length = 2 := by obtain ⟨_, _, rfl, _⟩ := h; rfl
theorem u_mark_of {P : PyData → Prop} {R : Er → Prop} {S : Su} {p : Pe} (h : Od S.q) (h1 : ∀ v, markM S p = .ok v → P (.int v)) (h2 : ∀ er, markM S p = .error er → R er) : ∃ r, F_mark_of [dSu S, dPe p] r ∧ (∀ d, r = .ok d → P d) ∧ (∀ er, r = .error er → R er) := useX ⟨_, _, rfl, h, rfl⟩ h1 h2
def F_check_secret (ds : List PyData) (r : Except Er PyData) : Prop := ∃ (S : Su) (x : Int), ds = [dSu S, .int x] ∧ r = ckR (okSec S x)
theorem l_check_secret (ds : List PyData) (r : Except Er PyData) (h : F_check_secret ds r) : ds.length = 2 := by obtain ⟨_, _, rfl, _⟩ := h; rfl
theorem u_check_secret {P : PyData → Prop} {R : Er → Prop} {S : Su} {x : Int} (_ : True) (h1 : okSec S x = true → P .none) (h2 : okSec S x = false → R .na) : ∃ r, F_check_secret [dSu S, .int x] r ∧ (∀ d, r = .ok d → P d) ∧ (∀ er, r = .error er → R er) := useC ⟨_, _, rfl, rfl⟩ h1 h2
def F_check_exponents (ds : List PyData) (r : Except Er PyData) : Prop := ∃ (S : Su) (vs : List Int), ds = [dSu S, .list (vs.map .int)] ∧ vs.length ≤ 1000 ∧ r = ckR (vs.all (isEx S.q))
theorem l_check_exponents (ds : List PyData) (r : Except Er PyData) (h : F_check_exponents ds r) : ds.length = 2 := by obtain ⟨_, _, rfl, _⟩ := h; rfl
theorem u_ce1 {P : PyData → Prop} {R : Er → Prop} {S : Su} {x : Int} (h1 : isEx S.q x = true → P .none) (h2 : isEx S.q x = false → R .na) : ∃ r, F_check_exponents [dSu S, .list [.int x]] r ∧ (∀ d, r = .ok d → P d) ∧ (∀ er, r = .error er → R er) :=
  useC (b := isEx S.q x) ⟨S, [x], rfl, ln_ rfl, by show _ = ckR (isEx S.q x && true); rw [Bool.and_true]⟩ h1 h2
theorem u_ce7 {P : PyData → Prop} {R : Er → Prop} {S : Su} {a b c d e f g : Int} (h1 : [a, b, c, d, e, f, g].all (isEx S.q) = true → P .none) (h2 : [a, b, c, d, e, f, g].all (isEx S.q) = false → R .na) :
    ∃ r, F_check_exponents [dSu S, .list [.int a, .int b, .int c, .int d, .int e, .int f, .int g]] r ∧ (∀ d, r = .ok d → P d) ∧ (∀ er, r = .error er → R er) := useC (b := [a, b, c, d, e, f, g].all (isEx S.q)) ⟨S, [a, b, c, d, e, f, g], rfl, ln_ rfl, rfl⟩ h1 h2
def F_check_blinding (ds : List PyData) (r : Except Er PyData) : Prop := ∃ (S : Su) (b : Bl), ds = [dSu S, dBl b] ∧ r = ckR (okBl S b)
theorem l_check_blinding (ds : List PyData) (r : Except Er PyData) (h : F_check_blinding ds r) : ds.length = 2 := by obtain ⟨_, _, rfl, _⟩ := h; rfl
theorem u_check_blinding {P : PyData → Prop} {R : Er → Prop} {S : Su} {b : Bl} (_ : True) (h1 : okBl S b = true → P .none) (h2 : okBl S b = false → R .na) : ∃ r, F_check_blinding [dSu S, dBl b] r ∧ (∀ d, r = .ok d → P d) ∧ (∀ er, r = .error er → R er) := useC ⟨_, _, rfl, rfl⟩ h1 h2
def F_key_of (ds : List PyData) (r : Except Er PyData) : Prop := ∃ (S : Su) (x : Int), ds = [dSu S, .int x] ∧ Od S.q ∧ r = (keyM S x).map .int
theorem l_key_of (ds : List PyData) (r : Except Er PyData) (h : F_key_of ds r) : ds.length = 2 := by obtain ⟨_, _, rfl, _⟩ := h; rfl
theorem u_key_of {P : PyData → Prop} {R : Er → Prop} {S : Su} {x : Int} (h : Od S.q) (h1 : ∀ v, keyM S x = .ok v → P (.int v)) (h2 : ∀ er, keyM S x = .error er → R er) : ∃ r, F_key_of [dSu S, .int x] r ∧ (∀ d, r = .ok d → P d) ∧ (∀ er, r = .error er → R er) := useX ⟨_, _, rfl, h, rfl⟩ h1 h2
def F_hidden (ds : List PyData) (r : Except Er PyData) : Prop := ∃ (S : Su) (p : Pe) (o : Of) (b : Bl), ds = [dSu S, dPe p, dOf o, dBl b] ∧ Od S.q ∧ r = (hiddenM S p o b).map (fun n => dFi n)
theorem l_hidden (ds : List PyData) (r : Except Er PyData) (h : F_hidden ds r) : ds.length = 4 := by obtain ⟨_, _, _, _, rfl, _⟩ := h; rfl
theorem u_hidden {P : PyData → Prop} {R : Er → Prop} {S : Su} {p : Pe} {o : Of} {b : Bl} (h : Od S.q) (h1 : ∀ n, hiddenM S p o b = .ok n → P (dFi n)) (h2 : ∀ er, hiddenM S p o b = .error er → R er) : ∃ r, F_hidden [dSu S, dPe p, dOf o, dBl b] r ∧ (∀ d, r = .ok d → P d) ∧ (∀ er, r = .error er → R er) := useX (c := fun n => dFi n) ⟨_, _, _, _, rfl, h, rfl⟩ h1 h2
def F_challenge_for (ds : List PyData) (r : Except Er PyData) : Prop := ∃ (q : Int) (f : Fi), ds = [.int q, dFi f] ∧ 2 ≤ q ∧ Sm f.l ∧ r = .ok (.int (chalM q f))
theorem l_challenge_for (ds : List PyData) (r : Except Er PyData) (h : F_challenge_for ds r) : ds.length = 2 := by obtain ⟨_, _, rfl, _⟩ := h; rfl
theorem u_challenge_for {P : PyData → Prop} {R : Er → Prop} {q : Int} {f : Fi} (h : 2 ≤ q ∧ Sm f.l) (k : P (.int (chalM q f))) : ∃ r, F_challenge_for [.int q, dFi f] r ∧ (∀ d, r = .ok d → P d) ∧ (∀ er, r = .error er → R er) := use0 ⟨_, _, rfl, h.1, h.2, rfl⟩ k
def F_request_of (ds : List PyData) (r : Except Er PyData) : Prop := ∃ (S : Su) (p : Pe) (o : Of) (b : Bl), ds = [dSu S, dPe p, dOf o, dBl b] ∧ Od S.q ∧ r = (requestM S p o b).map .int
theorem l_request_of (ds : List PyData) (r : Except Er PyData) (h : F_request_of ds r) : ds.length = 4 := by obtain ⟨_, _, _, _, rfl, _⟩ := h; rfl
theorem u_request_of {P : PyData → Prop} {R : Er → Prop} {S : Su} {p : Pe} {o : Of} {b : Bl} (h : Od S.q) (h1 : ∀ n, requestM S p o b = .ok n → P (.int n)) (h2 : ∀ er, requestM S p o b = .error er → R er) : ∃ r, F_request_of [dSu S, dPe p, dOf o, dBl b] r ∧ (∀ d, r = .ok d → P d) ∧ (∀ er, r = .error er → R er) := useX ⟨_, _, _, _, rfl, h, rfl⟩ h1 h2
def F_is_granted (ds : List PyData) (r : Except Er PyData) : Prop := ∃ q b r0 f s c : Int, ds = [.int q, .int b, .int r0, .int f, .int s, .int c] ∧ Od q ∧ r = (isGr q b r0 f s c).map .bool
theorem l_is_granted (ds : List PyData) (r : Except Er PyData) (h : F_is_granted ds r) : ds.length = 6 := by obtain ⟨_, _, _, _, _, _, rfl, _⟩ := h; rfl
theorem u_is_granted {P : PyData → Prop} {R : Er → Prop} {q b r0 f s c : Int} (h : Od q) (h1 : ∀ n, isGr q b r0 f s c = .ok n → P (.bool n)) (h2 : ∀ er, isGr q b r0 f s c = .error er → R er) : ∃ r, F_is_granted [.int q, .int b, .int r0, .int f, .int s, .int c] r ∧ (∀ d, r = .ok d → P d) ∧ (∀ er, r = .error er → R er) := useX ⟨_, _, _, _, _, _, rfl, h, rfl⟩ h1 h2
def F_ticket_of (ds : List PyData) (r : Except Er PyData) : Prop := ∃ (S : Su) (key : Int) (p : Pe) (o : Of) (b : Bl) (r0 : Int), ds = [dSu S, .int key, dPe p, dOf o, dBl b, .int r0] ∧ Od S.q ∧ r = (ticketM S key p o b r0).map (fun t => dTi t)
theorem l_ticket_of (ds : List PyData) (r : Except Er PyData) (h : F_ticket_of ds r) : ds.length = 6 := by obtain ⟨_, _, _, _, _, _, rfl, _⟩ := h; rfl
theorem u_ticket_of {P : PyData → Prop} {R : Er → Prop} {S : Su} {key : Int} {p : Pe} {o : Of} {b : Bl} {r0 : Int} (h : Od S.q) (h1 : ∀ n, ticketM S key p o b r0 = .ok n → P (dTi n)) (h2 : ∀ er, ticketM S key p o b r0 = .error er → R er) : ∃ r, F_ticket_of [dSu S, .int key, dPe p, dOf o, dBl b, .int r0] r ∧ (∀ d, r = .ok d → P d) ∧ (∀ er, r = .error er → R er) := useX (c := fun n => dTi n) ⟨_, _, _, _, _, _, rfl, h, rfl⟩ h1 h2
def F_spend_of (ds : List PyData) (r : Except Er PyData) : Prop := ∃ (S : Su) (p : Pe) (b : Bl) (d : Int), ds = [dSu S, dPe p, dBl b, .int d] ∧ Od S.q ∧ r = (spendM S p b d).map (fun t => dSp t)
theorem l_spend_of (ds : List PyData) (r : Except Er PyData) (h : F_spend_of ds r) : ds.length = 4 := by obtain ⟨_, _, _, _, rfl, _⟩ := h; rfl
theorem u_spend_of {P : PyData → Prop} {R : Er → Prop} {S : Su} {p : Pe} {b : Bl} {d : Int} (h : Od S.q) (h1 : ∀ n, spendM S p b d = .ok n → P (dSp n)) (h2 : ∀ er, spendM S p b d = .error er → R er) : ∃ r, F_spend_of [dSu S, dPe p, dBl b, .int d] r ∧ (∀ d, r = .ok d → P d) ∧ (∀ er, r = .error er → R er) := useX (c := fun n => dSp n) ⟨_, _, _, _, rfl, h, rfl⟩ h1 h2
/-! ### ranges -/
theorem power_rng {q b x v : Int} (hq : 0 < q) (h : powerM q b x = .ok v) : 0 ≤ v ∧ v < 2 * q + 1 := by
  unfold powerM at h
  split at h
  · cases h
    exact pw_rng (by omega)
  · cases h
theorem product_rng {q b x v : Int} (hq : 0 < q) (h : productM q b x = .ok v) : 0 ≤ v ∧ v < 2 * q + 1 := by
  unfold productM at h
  split at h
  · split at h
    · cases h
      exact mod_rng _ _ (by omega)
    · cases h
  · cases h
theorem pp_rng {q : Int} (hq : 0 < q) : ∀ (l : List (Int × Int)) {a v : Int}, 0 ≤ a → a < 2 * q + 1 → ppM q l a = .ok v → 0 ≤ v ∧ v < 2 * q + 1
  | [], a, v, h0, h1, h => by
    have e : a = v := Except.ok.inj h
    rw [← e]
    exact ⟨h0, h1⟩
  | p :: r, a, v, h0, h1, h => by
    have h' : (match powerM q p.1 p.2 with | .error e => Except.error e | .ok y => ppM q r (a * y % (2 * q + 1))) = .ok v := h
    cases hp : powerM q p.1 p.2 with
    | error e => rw [hp] at h'; cases h'
    | ok y =>
      rw [hp] at h'
      have hm := mod_rng (a * y) (2 * q + 1) (by omega)
      exact pp_rng hq r hm.1 hm.2 h'
theorem hidden_inv {S : Su} {p : Pe} {o : Of} {b : Bl} {n : Fi} (h : hiddenM S p o b = .ok n) : ∃ m x1 x2 y1 y2, markM S p = .ok m ∧ okOf S o = true ∧ okBl S b = true ∧ powerM S.q m b.s = .ok n.A ∧ ppM S.q [(S.g0, b.x0), (S.g1, b.x1), (S.g2, b.x2), (S.g3, b.x3)] 1 = .ok n.B ∧
    powerM S.q o.a b.u = .ok x1 ∧ powerM S.q S.g b.v = .ok x2 ∧ productM S.q x1 x2 = .ok n.a ∧ powerM S.q o.b (b.s * b.u) = .ok y1 ∧ powerM S.q n.A b.v = .ok y2 ∧ productM S.q y1 y2 = .ok n.b ∧ powerM S.q o.z b.s = .ok n.z := by
  unfold hiddenM at h
  obtain ⟨m, hm, h⟩ := bind_ok h
  split at h
  · rename_i ho
    split at h
    · rename_i hb
      obtain ⟨A, hA, h⟩ := bind_ok h
      obtain ⟨B, hB, h⟩ := bind_ok h
      obtain ⟨x1, hx1, h⟩ := bind_ok h
      obtain ⟨x2, hx2, h⟩ := bind_ok h
      obtain ⟨a1, ha1, h⟩ := bind_ok h
      obtain ⟨y1, hy1, h⟩ := bind_ok h
      obtain ⟨y2, hy2, h⟩ := bind_ok h
      obtain ⟨b1, hb1, h⟩ := bind_ok h
      obtain ⟨z1, hz1, h⟩ := bind_ok h
      cases h
      exact ⟨m, x1, x2, y1, y2, hm, ho, hb, hA, hB, hx1, hx2, ha1, hy1, hy2, hb1, hz1⟩
    · cases h
  · cases h
theorem sm5 {f : Fi} (h : ∀ n ∈ f.l, 0 ≤ n ∧ n < 8192) : Sm f.l := ⟨ln_ rfl, h⟩
theorem hidden_sm {S : Su} {p : Pe} {o : Of} {b : Bl} {n : Fi} (hq : Od S.q) (h : hiddenM S p o b = .ok n) : Sm n.l := by
  have hq1 := hq.1
  have hq2 := hq.2
  obtain ⟨m, x1, x2, y1, y2, _, _, _, hA, hB, _, _, ha, _, _, hb, hz⟩ := hidden_inv h
  have h1 := power_rng (by omega) hA
  have h2 := pp_rng (by omega) _ (by omega) (by omega) hB
  have h3 := power_rng (by omega) hz
  have h4 := product_rng (by omega) ha
  have h5 := product_rng (by omega) hb
  refine sm5 fun x hx => ?_
  unfold Fi.l at hx
  simp only [List.mem_cons, List.not_mem_nil, or_false] at hx
  rcases hx with rfl | rfl | rfl | rfl | rfl <;> omega
section
variable {P : Program} {w : World} {K : PySem.W.Frag} {mg : Str → Option Value} {base : Heap} {ea : Er → Addr} {CE : Addr}
/-! ### is_exponent -/
abbrev n_is_exponent : List Str := ["q", "value"]
theorem sc_is_exponent : FnScope n_is_exponent ["q", "value"] (defScope sis_exponent) := ⟨rfl, rfl, rfl, by decide +kernel, rfl, by decide +kernel, by decide +kernel⟩
theorem ok_is_exponent (T : Tx K mg ea CE)  {f : Addr} {fd : FuncData} (G : FnP K "is_exponent" sis_exponent f fd) (hm : mg "is_exponent" = some (.ref f)) : Callee P w K mg base CX0 1 "is_exponent" (spF K ea F_is_exponent) := by
  refine okV (k := 0) G hm sc_is_exponent ?len (fun _ _ _ _ _ _ us hl => match us, hl with | [_, _], _ => rfl) fun cdv A outer s H _E hr => ?_
  case len => exact l_is_exponent
  refine ⟨_, (pss_one (ps_ret (pe_chain op_le op_lt pe_int (pv 1) (pv 0)))), fun ds r hF => ?_⟩
  obtain ⟨q, v, rfl, rfl⟩ := hF
  refine sa_ret (vl_chain (vl_int ⟨_, rfl, (vl_var rfl ⟨_, rfl, fun h => (vl_var rfl ⟨_, rfl, ?_⟩), fun h => ?_⟩)⟩))
  · show Except.ok _ = Except.ok _
    unfold isEx
    rw [h]
    rfl
  · show Except.ok _ = Except.ok _
    unfold isEx
    rw [h]
    rfl
/-! ### check_person -/
abbrev n_check_person : List Str := ["setup", "person", "number", "age", "zone"]
theorem sc_check_person : FnScope n_check_person ["setup", "person"] (defScope scheck_person) := ⟨rfl, rfl, rfl, by decide +kernel, rfl, by decide +kernel, by decide +kernel⟩
theorem ok_check_person (T : Tx K mg ea CE) (c_is_exponent : Callee P w K mg base CX0 1 "is_exponent" (spF K ea F_is_exponent)) {f : Addr} {fd : FuncData} (G : FnP K "check_person" scheck_person f fd) (hm : mg "check_person" = some (.ref f)) : Callee P w K mg base (L2.CX P w) 2 "check_person" (spF K ea F_check_person) := by
  refine okX (k := 1) G hm sc_check_person ?len (fun _ _ _ _ _ _ us hl => match us, hl with | [_, _], _ => rfl) fun cdv A outer s H E hr => ?_
  case len => exact l_check_person
  refine ⟨_, (pss_cons (ps_asg (pv 1) (pg_tup rfl (pgs_cons (pg_name (i := 2) sc_check_person.nd rfl (.inl rfl)) (pgs_cons (pg_name (i := 3) sc_check_person.nd rfl (.inl rfl)) (pgs_cons (pg_name (i := 4) sc_check_person.nd rfl (.inl rfl)) pgs_nil)))))
      (pss_one (ps_if (PW.pt (pw_or (pt_not (pt_val (c_is_exponent.c0 (W := (WF E)) hr rfl (pa_cons (pe_ix (ixT (K := K) rfl) (pv 0) pe_int (fun _ _ => rfl)) (pa_cons (pv 2) pa_nil))))) (pw_or (pt_not (pt_chain op_le op_le pe_int (pv 3) (T.gGREATEST rfl rfl))) (pw_or1 (pt_not (pt_chain op_le op_le pe_int (pv 4) (T.gGREATEST rfl rfl))))))) (pss_one (ps_rse (W := (WF E)) rfl (takes_of rfl rfl rfl rfl) T.xNA T.gNA T.kNA T.bNA T.tNA rfl)) pss_nil))), fun ds r hF => ?_⟩
  obtain ⟨S, p, rfl, rfl⟩ := hF
  refine sa_seq ?_
  refine sa_asg (vl_var rfl (ga_tup rfl (gs_name (gs_name (gs_name (gs_nil ?_))))))
  refine sa_if (vt_or (vt_not (vt_B (vl_call (va_cons (vl_op (vl_var rfl (vl_int (op_ixT rfl (va_cons (vl_var rfl (va_nil (u_is_exponent trivial ⟨_, rfl, ⟨fun h => (vt_or (vt_not (vt_test (vl_chain (vl_int ⟨_, rfl, (vl_var rfl ⟨_, rfl, fun h2 => (vl_int ⟨_, rfl, ⟨_, rfl, ⟨fun h3 => (vt_not (vt_test (vl_chain (vl_int ⟨_, rfl, (vl_var rfl ⟨_, rfl, fun h4 => (vl_int ⟨_, rfl, ⟨_, rfl, ⟨fun h5 => ?_, fun h5 => ?_⟩⟩⟩), fun h4 => ?_⟩)⟩)))), fun h3 => ?_⟩⟩⟩), fun h2 => ?_⟩)⟩))))), fun h => ?_⟩⟩)))))))))))))
  · refine sa_raise ?_
    show ckR (okPe S p) = _
    simp only [okPe, Bool.not_eq_false', Bool.not_eq_true'] at *
    simp only [h, h2, h3, h4, h5]
    rfl
  · refine sa_next ?_
    show ckR (okPe S p) = _
    simp only [okPe, Bool.not_eq_false', Bool.not_eq_true'] at *
    simp only [h, h2, h3, h4, h5]
    rfl
  · refine ⟨_, rfl, fun _ => sa_raise ?_, (fun z => by cases z)⟩
    show ckR (okPe S p) = _
    simp only [okPe, Bool.not_eq_false', Bool.not_eq_true'] at *
    simp only [h, h2, h3, h4]
    rfl
  · refine ⟨fun _ => sa_raise ?_, (fun z => by cases z)⟩
    show ckR (okPe S p) = _
    simp only [okPe, Bool.not_eq_false', Bool.not_eq_true'] at *
    simp only [h, h2, h3]
    rfl
  · refine ⟨_, rfl, (fun z => by cases z), fun _ => ⟨fun _ => sa_raise ?_, (fun z => by cases z)⟩⟩
    show ckR (okPe S p) = _
    simp only [okPe, Bool.not_eq_false', Bool.not_eq_true'] at *
    simp only [h, h2]
    rfl
  · refine ⟨fun _ => sa_raise ?_, (fun z => by cases z)⟩
    show ckR (okPe S p) = _
    simp only [okPe, Bool.not_eq_false', Bool.not_eq_true'] at *
    simp only [h]
    rfl
/-! ### plain_mark -/
abbrev n_plain_mark : List Str := ["setup", "person", "q", "bases"]
theorem sc_plain_mark : FnScope n_plain_mark ["setup", "person"] (defScope splain_mark) := ⟨rfl, rfl, rfl, by decide +kernel, rfl, by decide +kernel, by decide +kernel⟩
theorem ok_plain_mark (T : Tx K mg ea CE) (c_product_of_powers : Callee P w K mg base (L2.CX P w) 5 "product_of_powers" (spF K ea F_product_of_powers)) {f : Addr} {fd : FuncData} (G : FnP K "plain_mark" splain_mark f fd) (hm : mg "plain_mark" = some (.ref f)) : Callee P w K mg base (L2.CX P w) 6 "plain_mark" (spF K ea F_plain_mark) := by
  refine okX (k := 5) G hm sc_plain_mark ?len (fun _ _ _ _ _ _ us hl => match us, hl with | [_, _], _ => rfl) fun cdv A outer s H E hr => ?_
  case len => exact l_plain_mark
  refine ⟨_, (pss_cons (ps_asg (pv 0) (pg_tup rfl (pgs_cons (pg_name (i := 2) sc_plain_mark.nd rfl (.inl rfl)) (pgs_cons (pg_name (i := 3) sc_plain_mark.nd rfl (.inl rfl)) pgs_nil))))
      (pss_one (ps_ret (c_product_of_powers.cX (W := (WF E)) hr rfl (takes_of rfl rfl rfl rfl) (pa_cons (pv 2) (pa_cons (pe_callTy call_list_of rfl T.flist boot_list (pa_cons (pe_slice sl_tupA (pv 3) (po_some pe_int) po_none) pa_nil)) (pa_cons (pe_op op_cat (pe_lst (pa_cons pe_int pa_nil)) (pe_callTy call_list_of rfl T.flist boot_list (pa_cons (pv 1) pa_nil))) pa_nil))))))), fun ds r hF => ?_⟩
  obtain ⟨S, p, rfl, hq, rfl⟩ := hF
  refine sa_seq ?_
  refine sa_asg (vl_var rfl (ga_tup rfl (gs_name (gs_name (gs_nil ?_)))))
  refine sa_ret (vl_call (va_cons (vl_var rfl (va_cons (vl_vn (vn_listOf (vl_slT (vl_var rfl ⟨_, rfl, (vo_some (vl_int ⟨_, rfl, (vo_none (.inr ⟨_, rfl, (va_cons (vl_vn (vn_cat (vl_vn (vn_lst (va_cons (vl_int (va_nil ⟨fl_ rfl, ln_ rfl, ⟨_, rfl, (vl_vn (vn_listOf (vl_var rfl (.inr ⟨_, rfl, ⟨_, rfl, ?_, (va_nil (u_product_of_powers hq (fun v hv => ?_) (fun er he => ?_)))⟩⟩))))⟩⟩))))))))⟩))⟩))⟩))))))))
  · exact ln_ rfl
  · show (pmarkM S p).map _ = _
    unfold pmarkM
    rw [hv]
    rfl
  · show (pmarkM S p).map _ = _
    unfold pmarkM
    rw [he]
    rfl
/-! ### mark_of -/
abbrev n_mark_of : List Str := ["setup", "person", "mark"]
theorem sc_mark_of : FnScope n_mark_of ["setup", "person"] (defScope smark_of) := ⟨rfl, rfl, rfl, by decide +kernel, rfl, by decide +kernel, by decide +kernel⟩
theorem ok_mark_of (T : Tx K mg ea CE) (c_check_person : Callee P w K mg base (L2.CX P w) 2 "check_person" (spF K ea F_check_person)) (c_plain_mark : Callee P w K mg base (L2.CX P w) 6 "plain_mark" (spF K ea F_plain_mark)) {f : Addr} {fd : FuncData} (G : FnP K "mark_of" smark_of f fd) (hm : mg "mark_of" = some (.ref f)) : Callee P w K mg base (L2.CX P w) 7 "mark_of" (spF K ea F_mark_of) := by
  refine okX (k := 6) G hm sc_mark_of ?len (fun _ _ _ _ _ _ us hl => match us, hl with | [_, _], _ => rfl) fun cdv A outer s H E hr => ?_
  case len => exact l_mark_of
  refine ⟨_, (pss_cons (ps_expr (c_check_person.cX (W := (WF E)) (hr.mono (by decide)) rfl (takes_of rfl rfl rfl rfl) (pa_cons (pv 0) (pa_cons (pv 1) pa_nil))))
      (pss_cons (ps_set (i := 2) sc_mark_of.nd rfl (.inl rfl) (c_plain_mark.cX (W := (WF E)) hr rfl (takes_of rfl rfl rfl rfl) (pa_cons (pv 0) (pa_cons (pv 1) pa_nil))))
      (pss_cons (ps_if (pt_cmpR op_eq (pv 2) pe_int (nomark _)) (pss_one (ps_rse (W := (WF E)) rfl (takes_of rfl rfl rfl rfl) T.xNA T.gNA T.kNA T.bNA T.tNA rfl)) pss_nil)
      (pss_one (ps_ret (pv 2)))))), fun ds r hF => ?_⟩
  obtain ⟨S, p, rfl, hq, rfl⟩ := hF
  refine sa_seq ?_
  refine sa_drop (vl_call (va_cons (vl_var rfl (va_cons (vl_var rfl (va_nil (u_check_person trivial (fun hv => ?_) (fun hv => ?_))))))))
  · refine sa_seq ?_
    refine sa_asg (vl_call (va_cons (vl_var rfl (va_cons (vl_var rfl (va_nil (u_plain_mark hq (fun m hm => (ga_name (.inl rfl) ?_)) (fun er he => ?_))))))))
    · refine sa_seq ?_
      refine sa_if (vt_test (vl_op (vl_var rfl (vl_int (op_eqI ⟨_, rfl, ⟨fun h => ?_, fun h => ?_⟩⟩)))))
      ·
        refine sa_raise ?_
        have h1 : m = 1 := of_decide_eq_true h
        show (markM S p).map _ = _
        unfold markM
        rw [if_pos hv, hm]
        show Except.map _ (if m = 1 then Except.error Er.na else .ok m) = _
        rw [if_pos h1]
        rfl
      refine sa_next ?_
      have h1 : ¬ m = 1 := of_decide_eq_false h
      refine sa_ret (vl_var rfl ?_)
      show (markM S p).map _ = _
      unfold markM
      rw [if_pos hv, hm]
      show Except.map _ (if m = 1 then Except.error Er.na else .ok m) = _
      rw [if_neg h1]
      rfl
    · show (markM S p).map _ = _
      unfold markM
      rw [if_pos hv, he]
      rfl
  · show (markM S p).map _ = _
    unfold markM
    rw [hv]
    rfl
/-! ### check_secret -/
abbrev n_check_secret : List Str := ["setup", "secret"]
theorem sc_check_secret : FnScope n_check_secret ["setup", "secret"] (defScope scheck_secret) := ⟨rfl, rfl, rfl, by decide +kernel, rfl, by decide +kernel, by decide +kernel⟩
theorem ok_check_secret (T : Tx K mg ea CE)  {f : Addr} {fd : FuncData} (G : FnP K "check_secret" scheck_secret f fd) (hm : mg "check_secret" = some (.ref f)) : Callee P w K mg base (L2.CX P w) 1 "check_secret" (spF K ea F_check_secret) := by
  refine okX (k := 0) G hm sc_check_secret ?len (fun _ _ _ _ _ _ us hl => match us, hl with | [_, _], _ => rfl) fun cdv A outer s H E hr => ?_
  case len => exact l_check_secret
  refine ⟨_, (pss_one (ps_if (pt_not (pt_chain op_le op_lt pe_int (pv 1) (pe_ix (ixT (K := K) rfl) (pv 0) pe_int (fun _ _ => rfl)))) (pss_one (ps_rse (W := (WF E)) rfl (takes_of rfl rfl rfl rfl) T.xNA T.gNA T.kNA T.bNA T.tNA rfl)) pss_nil)), fun ds r hF => ?_⟩
  obtain ⟨S, x, rfl, rfl⟩ := hF
  refine sa_if (vt_not (vt_test (vl_chain (vl_int ⟨_, rfl, (vl_var rfl ⟨_, rfl, fun h => (vl_op (vl_var rfl (vl_int (op_ixT rfl ⟨_, rfl, ⟨_, rfl, ⟨fun h2 => ?_, fun h2 => ?_⟩⟩⟩)))), fun h => ?_⟩)⟩))))
  · refine sa_raise ?_
    show ckR (okSec S x) = _
    simp only [okSec, Bool.not_eq_false', Bool.not_eq_true'] at *
    simp only [h, h2]
    rfl
  · refine sa_next ?_
    show ckR (okSec S x) = _
    simp only [okSec, Bool.not_eq_false', Bool.not_eq_true'] at *
    simp only [h, h2]
    rfl
  · refine ⟨_, rfl, fun _ => sa_raise ?_, (fun z => by cases z)⟩
    show ckR (okSec S x) = _
    simp only [okSec, Bool.not_eq_false', Bool.not_eq_true'] at *
    simp only [h]
    rfl
/-! ### check_exponents -/
abbrev n_check_exponents : List Str := ["setup", "values", "value"]
theorem sc_check_exponents : FnScope n_check_exponents ["setup", "values"] (defScope scheck_exponents) := ⟨rfl, rfl, rfl, by decide +kernel, rfl, by decide +kernel, by decide +kernel⟩
theorem ok_check_exponents (T : Tx K mg ea CE) (c_is_exponent : Callee P w K mg base CX0 1 "is_exponent" (spF K ea F_is_exponent)) {f : Addr} {fd : FuncData} (G : FnP K "check_exponents" scheck_exponents f fd) (hm : mg "check_exponents" = some (.ref f)) : Callee P w K mg base (L2.CX P w) 2 "check_exponents" (spF K ea F_check_exponents) := by
  refine okX (k := 1) G hm sc_check_exponents ?len (fun _ _ _ _ _ _ us hl => match us, hl with | [_, _], _ => rfl) fun cdv A outer s H E hr => ?_
  case len => exact l_check_exponents
  refine ⟨_, (pss_one (ps_if (pt_not (pt_val (pe_callB (cr_all rfl) rfl T.fall boot_all (pa_cons (pe_lc (own := [("value", 2)]) (g := gName 2) (tt := tYes) rfl sc_check_exponents.nd (pi_list (pv 1)) (blkOk_by (N := n_check_exponents) (sc := defScope scheck_exponents) (by decide +kernel)) (fun _ _ _ _ _ => (pg_name (i := 2) sc_check_exponents.nd rfl (Or.inl rfl) (hf := .inr rfl))) (fun _ _ _ _ _ => pts_nil) (fun _ _ _ _ _ => (c_is_exponent.c0 (W := W0) hr rfl (pa_cons (pe_ix (ixT (K := K) rfl) (pv 0) pe_int (fun _ _ => rfl)) (pa_cons (pv 2) pa_nil))))) pa_nil)))) (pss_one (ps_rse (W := (WF E)) rfl (takes_of rfl rfl rfl rfl) T.xNA T.gNA T.kNA T.bNA T.tNA rfl)) pss_nil)), fun ds r hF => ?_⟩
  obtain ⟨S, vs, rfl, hl, rfl⟩ := hF
  refine sa_if (vt_not (vt_B (vl_all (vl_vn (vn_lc1 (iw_list rfl (vl_var rfl ⟨_, rfl, ⟨(vs.map (isEx S.q)).map .bool, ?_, ?_, ⟨vs.map (isEx S.q), rfl, ⟨_, rfl, ⟨fun h => ?_, fun h => ?_⟩⟩⟩, ?_⟩⟩)))))))
  · simp
  · simp
    omega
  · refine sa_raise ?_
    have e : vs.all (isEx S.q) = false := by
      rw [List.all_map] at h
      simpa using h
    rw [e]
    rfl
  · refine sa_next ?_
    have e : vs.all (isEx S.q) = true := by
      rw [List.all_map] at h
      simpa using h
    rw [e]
    rfl
  · intro k d r hd hr'
    rw [List.getElem?_map] at hd
    rw [List.getElem?_map, List.getElem?_map] at hr'
    cases hn : vs[k]? with
    | none => rw [hn] at hd; cases hd
    | some n =>
      rw [hn] at hd hr'
      cases hd
      cases hr'
      exact ⟨rfl, rfl, vl_call (va_cons (vl_op (vl_var rfl (vl_int (op_ixT rfl (va_cons (vl_var rfl (va_nil (u_is_exponent trivial rfl)))))))))⟩
/-! ### check_blinding -/
abbrev n_check_blinding : List Str := ["setup", "blinding", "s", "u", "v", "rest"]
theorem sc_check_blinding : FnScope n_check_blinding ["setup", "blinding"] (defScope scheck_blinding) := ⟨rfl, rfl, rfl, by decide +kernel, rfl, by decide +kernel, by decide +kernel⟩
theorem ok_check_blinding (T : Tx K mg ea CE) (c_check_exponents : Callee P w K mg base (L2.CX P w) 2 "check_exponents" (spF K ea F_check_exponents)) {f : Addr} {fd : FuncData} (G : FnP K "check_blinding" scheck_blinding f fd) (hm : mg "check_blinding" = some (.ref f)) : Callee P w K mg base (L2.CX P w) 3 "check_blinding" (spF K ea F_check_blinding) := by
  refine okX (k := 2) G hm sc_check_blinding ?len (fun _ _ _ _ _ _ us hl => match us, hl with | [_, _], _ => rfl) fun cdv A outer s H E hr => ?_
  case len => exact l_check_blinding
  refine ⟨_, (pss_cons (ps_asg (pv 1) (pg_tup rfl (pgs_cons (pg_name (i := 2) sc_check_blinding.nd rfl (.inl rfl)) (pgs_cons (pg_name (i := 3) sc_check_blinding.nd rfl (.inl rfl)) (pgs_cons (pg_name (i := 4) sc_check_blinding.nd rfl (.inl rfl)) (pgs_cons (pg_name (i := 5) sc_check_blinding.nd rfl (.inl rfl)) pgs_nil))))))
      (pss_cons (ps_expr (c_check_exponents.cX (W := (WF E)) hr rfl (takes_of rfl rfl rfl rfl) (pa_cons (pv 0) (pa_cons (pe_op op_cat (pe_lst (pa_cons (pv 2) (pa_cons (pv 3) (pa_cons (pv 4) pa_nil)))) (pe_callTy call_list_of rfl T.flist boot_list (pa_cons (pv 5) pa_nil))) pa_nil))))
      (pss_one (ps_if (PW.pt (pw_or (pt_cmpR op_eq (pv 2) pe_int (nomark _)) (pw_or1 (pt_cmpR op_eq (pv 3) pe_int (nomark _))))) (pss_one (ps_rse (W := (WF E)) rfl (takes_of rfl rfl rfl rfl) T.xNA T.gNA T.kNA T.bNA T.tNA rfl)) pss_nil)))), fun ds r hF => ?_⟩
  obtain ⟨S, b, rfl, rfl⟩ := hF
  refine sa_seq ?_
  refine sa_asg (vl_var rfl (ga_tup rfl (gs_name (gs_name (gs_name (gs_name (gs_nil ?_)))))))
  refine sa_seq ?_
  refine sa_drop (vl_call (va_cons (vl_var rfl (va_cons (vl_vn (vn_cat (vl_vn (vn_lst (va_cons (vl_var rfl (va_cons (vl_var rfl (va_cons (vl_var rfl (va_nil ⟨fl_ rfl, ln_ rfl, ⟨_, rfl, (vl_vn (vn_listOf (vl_var rfl (.inr ⟨_, rfl, ⟨_, rfl, ?_, (va_nil (u_ce7 (fun hv => ?_) (fun hv => ?_)))⟩⟩))))⟩⟩)))))))))))))))
  · exact ln_ rfl
  ·
    refine sa_if (vt_or (vt_test (vl_op (vl_var rfl (vl_int (op_eqI ⟨_, rfl, ⟨fun h => (vt_test (vl_op (vl_var rfl (vl_int (op_eqI ⟨_, rfl, ⟨fun h2 => ?_, fun h2 => ?_⟩⟩))))), fun h => ?_⟩⟩))))))
    · refine sa_raise ?_
      show ckR (okBl S b) = _
      unfold okBl
      rw [hv, h, h2]
      rfl
    · refine sa_next ?_
      show ckR (okBl S b) = _
      unfold okBl
      rw [hv, h, h2]
      rfl
    · refine ⟨fun _ => sa_raise ?_, (fun z => by cases z)⟩
      show ckR (okBl S b) = _
      unfold okBl
      rw [hv, h]
      rfl
  · show ckR (okBl S b) = _
    unfold okBl
    rw [hv]
    rfl
/-! ### key_of -/
abbrev n_key_of : List Str := ["setup", "secret"]
theorem sc_key_of : FnScope n_key_of ["setup", "secret"] (defScope skey_of) := ⟨rfl, rfl, rfl, by decide +kernel, rfl, by decide +kernel, by decide +kernel⟩
theorem ok_key_of (T : Tx K mg ea CE) (c_power : Callee P w K mg base (L2.CX P w) 4 "power" (spF K ea F_power)) (c_check_secret : Callee P w K mg base (L2.CX P w) 1 "check_secret" (spF K ea F_check_secret)) {f : Addr} {fd : FuncData} (G : FnP K "key_of" skey_of f fd) (hm : mg "key_of" = some (.ref f)) : Callee P w K mg base (L2.CX P w) 5 "key_of" (spF K ea F_key_of) := by
  refine okX (k := 4) G hm sc_key_of ?len (fun _ _ _ _ _ _ us hl => match us, hl with | [_, _], _ => rfl) fun cdv A outer s H E hr => ?_
  case len => exact l_key_of
  refine ⟨_, (pss_cons (ps_expr (c_check_secret.cX (W := (WF E)) (hr.mono (by decide)) rfl (takes_of rfl rfl rfl rfl) (pa_cons (pv 0) (pa_cons (pv 1) pa_nil))))
      (pss_one (ps_ret (c_power.cX (W := (WF E)) hr rfl (takes_of rfl rfl rfl rfl) (pa_cons (pe_ix (ixT (K := K) rfl) (pv 0) pe_int (fun _ _ => rfl)) (pa_cons (pe_ix (ixT (K := K) rfl) (pe_ix (ixT (K := K) rfl) (pv 0) pe_int (fun _ _ => rfl)) pe_int (fun _ _ => rfl)) (pa_cons (pv 1) pa_nil))))))), fun ds r hF => ?_⟩
  obtain ⟨S, x, rfl, hq, rfl⟩ := hF
  refine sa_seq ?_
  refine sa_drop (vl_call (va_cons (vl_var rfl (va_cons (vl_var rfl (va_nil (u_check_secret trivial (fun hv => ?_) (fun hv => ?_))))))))
  ·
    refine sa_ret (vl_call (va_cons (vl_op (vl_var rfl (vl_int (op_ixT rfl (va_cons (vl_op (vl_op (vl_var rfl (vl_int (op_ixT rfl (vl_int (op_ixT rfl (va_cons (vl_var rfl (va_nil (u_power hq (fun v hp => ?_) (fun er hp => ?_)))))))))))))))))))
    · show (keyM S x).map _ = _
      unfold keyM
      rw [if_pos hv, hp]
      rfl
    · show (keyM S x).map _ = _
      unfold keyM
      rw [if_pos hv, hp]
      rfl
  · show (keyM S x).map _ = _
    unfold keyM
    rw [hv]
    rfl
end
end Ck
set_option Elab.async false
set_option linter.all false
set_option autoImplicit false
set_option maxRecDepth 100000
set_option maxHeartbeats 1000000
/-! P4: sessions, spends. -/
namespace Ck
open PySem PySem.Spec PyProof.Rows L2 Fw Evl
theorem u_co5 {P : PyData → Prop} {R : Er → Prop} {q a b c d e : Int} {word : Str} (h : 2 ≤ q ∧ word.length ≤ 1000 ∧ Sm [a, b, c, d, e]) (k : P (.int (challengeM q (joinedM word [a, b, c, d, e])))) : ∃ r, F_challenge_of [.int q, .str word, .list [.int a, .int b, .int c, .int d, .int e]] r ∧ (∀ d, r = .ok d → P d) ∧ (∀ er, r = .error er → R er) :=
  u_challenge_of (ns := [a, b, c, d, e]) h k
local macro_rules | `(tactic| walk_at "nf19") => `(tactic| show Sa _ _ _ _ ⟨[_, _, _, _, _, _, _, _, _, _, _, _, _, _, _, _, _, _, _], none⟩ _)
section
variable {P : Program} {w : World} {K : PySem.W.Frag} {mg : Str → Option Value} {base : Heap} {ea : Er → Addr} {CE : Addr}
/-! ### hidden -/
abbrev n_hidden : List Str := ["setup", "person", "offer", "blinding", "mark", "q", "bases", "value", "z", "a", "b", "s", "u", "v", "rest", "first", "second", "a1", "b1"]
theorem sc_hidden : FnScope n_hidden ["setup", "person", "offer", "blinding"] (defScope shidden) := ⟨rfl, rfl, rfl, by decide +kernel, rfl, by decide +kernel, by decide +kernel⟩
theorem ok_hidden (T : Tx K mg ea CE) (c_is_element : Callee P w K mg base CX0 2 "is_element" (spF K ea F_is_element)) (c_power : Callee P w K mg base (L2.CX P w) 4 "power" (spF K ea F_power)) (c_product : Callee P w K mg base (L2.CX P w) 4 "product" (spF K ea F_product)) (c_product_of_powers : Callee P w K mg base (L2.CX P w) 5 "product_of_powers" (spF K ea F_product_of_powers)) (c_mark_of : Callee P w K mg base (L2.CX P w) 7 "mark_of" (spF K ea F_mark_of)) (c_check_blinding : Callee P w K mg base (L2.CX P w) 3 "check_blinding" (spF K ea F_check_blinding)) {f : Addr} {fd : FuncData} (G : FnP K "hidden" shidden f fd) (hm : mg "hidden" = some (.ref f)) : Callee P w K mg base (L2.CX P w) 8 "hidden" (spF K ea F_hidden) := by
  refine okX (k := 7) G hm sc_hidden ?len (fun _ _ _ _ _ _ us hl => match us, hl with | [_, _, _, _], _ => rfl) fun cdv A outer s H E hr => ?_
  case len => exact l_hidden
  refine ⟨_, (pss_cons (ps_set (i := 4) sc_hidden.nd rfl (.inl rfl) (c_mark_of.cX (W := (WF E)) hr rfl (takes_of rfl rfl rfl rfl) (pa_cons (pv 0) (pa_cons (pv 1) pa_nil))))
      (pss_cons (ps_asg (pv 0) (pg_tup rfl (pgs_cons (pg_name (i := 5) sc_hidden.nd rfl (.inr rfl)) (pgs_cons (pg_name (i := 6) sc_hidden.nd rfl (.inl rfl)) pgs_nil))))
      (pss_cons (ps_if (PW.pt (pw_or (pt_not (pt_val (pe_callB (cr_all rfl) rfl T.fall boot_all (pa_cons (pe_lc (own := [("value", 7)]) (g := gName 7) (tt := tYes) rfl sc_hidden.nd (pi_tup (pv 2)) (blkOk_by (N := n_hidden) (sc := defScope shidden) (by decide +kernel)) (fun _ _ _ _ _ => (pg_name (i := 7) sc_hidden.nd rfl (Or.inl rfl) (hf := .inr rfl))) (fun _ _ _ _ _ => pts_nil) (fun _ _ _ _ _ => (c_is_element.c0 (W := W0) (hr.mono (by decide)) rfl (pa_cons (pv 5) (pa_cons (pv 7) pa_nil))))) pa_nil)))) (pw_or1 (pt_cmpR op_eq (pe_ix (ixT (K := K) rfl) (pv 2) pe_int (fun _ _ => rfl)) pe_int (nomark _))))) (pss_one (ps_rse (W := (WF E)) rfl (takes_of rfl rfl rfl rfl) T.xNA T.gNA T.kNA T.bNA T.tNA rfl)) pss_nil)
      (pss_cons (ps_expr (c_check_blinding.cX (W := (WF E)) (hr.mono (by decide)) rfl (takes_of rfl rfl rfl rfl) (pa_cons (pv 0) (pa_cons (pv 3) pa_nil))))
      (pss_cons (ps_asg (pv 2) (pg_tup rfl (pgs_cons (pg_name (i := 8) sc_hidden.nd rfl (.inl rfl)) (pgs_cons (pg_name (i := 9) sc_hidden.nd rfl (.inl rfl)) (pgs_cons (pg_name (i := 10) sc_hidden.nd rfl (.inl rfl)) pgs_nil)))))
      (pss_cons (ps_asg (pv 3) (pg_tup rfl (pgs_cons (pg_name (i := 11) sc_hidden.nd rfl (.inl rfl)) (pgs_cons (pg_name (i := 12) sc_hidden.nd rfl (.inl rfl)) (pgs_cons (pg_name (i := 13) sc_hidden.nd rfl (.inl rfl)) (pgs_cons (pg_name (i := 14) sc_hidden.nd rfl (.inl rfl)) pgs_nil))))))
      (pss_cons (ps_set (i := 15) sc_hidden.nd rfl (.inl rfl) (c_power.cX (W := (WF E)) (hr.mono (by decide)) rfl (takes_of rfl rfl rfl rfl) (pa_cons (pv 5) (pa_cons (pv 4) (pa_cons (pv 11) pa_nil)))))
      (pss_cons (ps_set (i := 16) sc_hidden.nd rfl (.inl rfl) (c_product_of_powers.cX (W := (WF E)) (hr.mono (by decide)) rfl (takes_of rfl rfl rfl rfl) (pa_cons (pv 5) (pa_cons (pe_callTy call_list_of rfl T.flist boot_list (pa_cons (pe_slice sl_tupA (pv 6) (po_some pe_int) po_none) pa_nil)) (pa_cons (pe_callTy call_list_of rfl T.flist boot_list (pa_cons (pv 14) pa_nil)) pa_nil)))))
      (pss_cons (ps_set (i := 17) sc_hidden.nd rfl (.inl rfl) (c_product.cX (W := (WF E)) (hr.mono (by decide)) rfl (takes_of rfl rfl rfl rfl) (pa_cons (pv 5) (pa_cons (c_power.cX (W := (WF E)) (hr.mono (by decide)) rfl (takes_of rfl rfl rfl rfl) (pa_cons (pv 5) (pa_cons (pv 9) (pa_cons (pv 12) pa_nil)))) (pa_cons (c_power.cX (W := (WF E)) (hr.mono (by decide)) rfl (takes_of rfl rfl rfl rfl) (pa_cons (pv 5) (pa_cons (pe_ix (ixT (K := K) rfl) (pv 6) pe_int (fun _ _ => rfl)) (pa_cons (pv 13) pa_nil)))) pa_nil)))))
      (pss_cons (ps_set (i := 18) sc_hidden.nd rfl (.inl rfl) (c_product.cX (W := (WF E)) (hr.mono (by decide)) rfl (takes_of rfl rfl rfl rfl) (pa_cons (pv 5) (pa_cons (c_power.cX (W := (WF E)) (hr.mono (by decide)) rfl (takes_of rfl rfl rfl rfl) (pa_cons (pv 5) (pa_cons (pv 10) (pa_cons (pe_op op_mul (pv 11) (pv 12)) pa_nil)))) (pa_cons (c_power.cX (W := (WF E)) (hr.mono (by decide)) rfl (takes_of rfl rfl rfl rfl) (pa_cons (pv 5) (pa_cons (pv 15) (pa_cons (pv 13) pa_nil)))) pa_nil)))))
      (pss_one (ps_ret (pe_tup (pa_cons (pv 15) (pa_cons (pv 16) (pa_cons (c_power.cX (W := (WF E)) (hr.mono (by decide)) rfl (takes_of rfl rfl rfl rfl) (pa_cons (pv 5) (pa_cons (pv 8) (pa_cons (pv 11) pa_nil)))) (pa_cons (pv 17) (pa_cons (pv 18) pa_nil)))))))))))))))))), fun ds r hF => ?_⟩
  obtain ⟨S, p, o, b, rfl, hq, rfl⟩ := hF
  have hq1 := hq.1
  have hq2 := hq.2
  refine sa_seq ?_
  refine sa_asg (vl_call (va_cons (vl_var rfl (va_cons (vl_var rfl (va_nil (u_mark_of hq (fun m hm => (ga_name (.inl rfl) ?_)) (fun er he => ?_))))))))
  · walk_at "nf19"
    refine sa_seq ?_
    refine sa_asg (vl_var rfl (ga_tup rfl (gs_name (gs_name (gs_nil ?_)))))
    walk_at "nf19"
    refine sa_seq ?_
    have hall : ∀ bs : List Bool, bs = [isEl S.q o.z, isEl S.q o.a, isEl S.q o.b] → bs.all id = (isEl S.q o.z && (isEl S.q o.a && isEl S.q o.b)) := fun bs e => by
      rw [e]
      show (isEl S.q o.z && (isEl S.q o.a && (isEl S.q o.b && true))) = _
      rw [Bool.and_true]
    refine sa_if (vt_or (vt_not (vt_B (vl_all (vl_vn (vn_lc1 (iw_tup (vl_var rfl ⟨_, rfl, ⟨[.bool (isEl S.q o.z), .bool (isEl S.q o.a), .bool (isEl S.q o.b)], rfl, ln_ rfl, ⟨[isEl S.q o.z, isEl S.q o.a, isEl S.q o.b], rfl, ⟨_, rfl, ⟨fun h => (vt_test (vl_op (vl_op (vl_var rfl (vl_int (op_ixT rfl (vl_int (op_eqI ⟨_, rfl, ⟨fun h2 => ?_, fun h2 => ?_⟩⟩)))))))), fun h => ?_⟩⟩⟩, ?_⟩⟩))))))))
    · refine sa_raise ?_
      show (hiddenM S p o b).map _ = _
      have ho : okOf S o = false := by
        unfold okOf
        rw [h2, Bool.not_true, Bool.and_false]
      simp only [hiddenM, hm, bok, ho, Bool.false_eq_true, ↓reduceIte]
      rfl
    · have h' : (isEl S.q o.z && (isEl S.q o.a && isEl S.q o.b)) = true := by
        rw [hall _ rfl] at h
        revert h
        cases (isEl S.q o.z && (isEl S.q o.a && isEl S.q o.b)) <;> intro h
        · cases h
        · rfl
      have ho : okOf S o = true := by
        unfold okOf
        rw [h2, h']
        rfl
      refine sa_next ?_
      refine sa_seq ?_
      refine sa_drop (vl_call (va_cons (vl_var rfl (va_cons (vl_var rfl (va_nil (u_check_blinding trivial (fun hv => ?_) (fun hv => ?_))))))))
      · have hs : 0 ≤ b.s ∧ b.s < S.q := by
          unfold okBl at hv
          simp only [List.all_cons, isEx, Bool.and_eq_true, decide_eq_true_eq] at hv
          exact hv.1.1
        refine sa_seq ?_
        refine sa_asg (vl_var rfl (ga_tup rfl (gs_name (gs_name (gs_name (gs_nil ?_))))))
        walk_at "nf19"
        refine sa_seq ?_
        refine sa_asg (vl_var rfl (ga_tup rfl (gs_name (gs_name (gs_name (gs_name (gs_nil ?_)))))))
        walk_at "nf19"
        refine sa_seq ?_
        refine sa_asg (vl_call (va_cons (vl_var rfl (va_cons (vl_var rfl (va_cons (vl_var rfl (va_nil (u_power hq (fun v3 hv3 => (ga_name (.inl rfl) ?_)) (fun er he => ?_))))))))))
        · walk_at "nf19"
          refine sa_seq ?_
          refine sa_asg (vl_call (va_cons (vl_var rfl (va_cons (vl_vn (vn_listOf (vl_slT (vl_var rfl ⟨_, rfl, (vo_some (vl_int ⟨_, rfl, (vo_none (.inr ⟨_, rfl, (va_cons (vl_vn (vn_listOf (vl_var rfl (.inr ⟨_, rfl, (va_nil (u_product_of_powers hq (fun v4 hv4 => (ga_name (.inl rfl) ?_)) (fun er he => ?_)))⟩)))))⟩))⟩))⟩))))))))
          · walk_at "nf19"
            refine sa_seq ?_
            refine sa_asg (vl_call (va_cons (vl_var rfl (va_cons (vl_call (va_cons (vl_var rfl (va_cons (vl_var rfl (va_cons (vl_var rfl (va_nil (u_power hq (fun v7 hv7 => (va_cons (vl_call (va_cons (vl_var rfl (va_cons (vl_op (vl_var rfl (vl_int (op_ixT rfl (va_cons (vl_var rfl (va_nil (u_power hq (fun v6 hv6 => (va_nil (u_product hq (fun v5 hv5 => (ga_name (.inl rfl) ?_)) (fun er he => ?_)))) (fun er he => ?_))))))))))))))) (fun er he => ?_))))))))))))))
            · walk_at "nf19"
              refine sa_seq ?_
              refine sa_asg (vl_call (va_cons (vl_var rfl (va_cons (vl_call (va_cons (vl_var rfl (va_cons (vl_var rfl (va_cons (vl_op (vl_var rfl (vl_var rfl (op_I ?_ (va_nil (u_power hq (fun v10 hv10 => (va_cons (vl_call (va_cons (vl_var rfl (va_cons (vl_var rfl (va_cons (vl_var rfl (va_nil (u_power hq (fun v9 hv9 => (va_nil (u_product hq (fun v8 hv8 => (ga_name (.inl rfl) ?_)) (fun er he => ?_)))) (fun er he => ?_)))))))))))) (fun er he => ?_)))))))))))))))))
              · exact .inl ⟨by omega, by omega⟩
              ·
                walk_at "nf19"
                refine sa_ret (vl_tup (va_cons (vl_var rfl (va_cons (vl_var rfl (va_cons (vl_call (va_cons (vl_var rfl (va_cons (vl_var rfl (va_cons (vl_var rfl (va_nil (u_power hq (fun v11 hv11 => (va_cons (vl_var rfl (va_cons (vl_var rfl (va_nil ⟨fl_ rfl, ln_ rfl, ?_⟩)))))) (fun er he => ?_))))))))))))))))
                · show (hiddenM S p o b).map _ = _
                  simp only [hiddenM, hm, bok, ho, hv, hv3, hv4, hv5, hv6, hv7, hv8, hv9, hv10, hv11, ↓reduceIte]
                  rfl
                · show (hiddenM S p o b).map _ = _
                  simp only [hiddenM, hm, bok, ho, hv, hv3, hv4, hv5, hv6, hv7, hv8, hv9, hv10, he, ber, ↓reduceIte]
                  rfl
              · show (hiddenM S p o b).map _ = _
                simp only [hiddenM, hm, bok, ho, hv, hv3, hv4, hv5, hv6, hv7, hv9, hv10, he, ber, ↓reduceIte]
                rfl
              · show (hiddenM S p o b).map _ = _
                simp only [hiddenM, hm, bok, ho, hv, hv3, hv4, hv5, hv6, hv7, hv10, he, ber, ↓reduceIte]
                rfl
              · show (hiddenM S p o b).map _ = _
                simp only [hiddenM, hm, bok, ho, hv, hv3, hv4, hv5, hv6, hv7, he, ber, ↓reduceIte]
                rfl
            · show (hiddenM S p o b).map _ = _
              simp only [hiddenM, hm, bok, ho, hv, hv3, hv4, hv6, hv7, he, ber, ↓reduceIte]
              rfl
            · show (hiddenM S p o b).map _ = _
              simp only [hiddenM, hm, bok, ho, hv, hv3, hv4, hv7, he, ber, ↓reduceIte]
              rfl
            · show (hiddenM S p o b).map _ = _
              simp only [hiddenM, hm, bok, ho, hv, hv3, hv4, he, ber, ↓reduceIte]
              rfl
          · show (hiddenM S p o b).map _ = _
            simp only [hiddenM, hm, bok, ho, hv, hv3, he, ber, ↓reduceIte]
            rfl
        · show (hiddenM S p o b).map _ = _
          simp only [hiddenM, hm, bok, ho, hv, he, ber, ↓reduceIte]
          rfl
      · show (hiddenM S p o b).map _ = _
        simp only [hiddenM, hm, bok, ho, hv, ber, Bool.false_eq_true, ↓reduceIte]
        rfl
    · refine ⟨fun _ => sa_raise ?_, (fun z => by cases z)⟩
      have h' : (isEl S.q o.z && (isEl S.q o.a && isEl S.q o.b)) = false := by
        rw [hall _ rfl] at h
        revert h
        cases (isEl S.q o.z && (isEl S.q o.a && isEl S.q o.b)) <;> intro h
        · rfl
        · cases h
      have ho : okOf S o = false := by
        unfold okOf
        rw [h']
        rfl
      show (hiddenM S p o b).map _ = _
      simp only [hiddenM, hm, bok, ho, Bool.false_eq_true, ↓reduceIte]
      rfl
    · intro k d r hd hr'
      have go : ∃ v, d = .int v ∧ r = .bool (isEl S.q v) := match k, hd, hr' with
        | 0, hd, hr' => ⟨o.z, (Option.some.inj hd).symm, (Option.some.inj hr').symm⟩
        | 1, hd, hr' => ⟨o.a, (Option.some.inj hd).symm, (Option.some.inj hr').symm⟩
        | 2, hd, hr' => ⟨o.b, (Option.some.inj hd).symm, (Option.some.inj hr').symm⟩
        | k + 3, hd, _ => nomatch hd
      obtain ⟨v, rfl, rfl⟩ := go
      exact ⟨rfl, rfl, vl_call (va_cons (vl_var rfl (va_cons (vl_var rfl (va_nil (u_is_element hq rfl))))))⟩
  · show (hiddenM S p o b).map _ = _
    simp only [hiddenM, he, ber]
    rfl
end
end Ck
set_option Elab.async false
set_option linter.all false
set_option autoImplicit false
set_option maxRecDepth 100000
set_option maxHeartbeats 1000000
/-! P5: requests, tickets, spends. -/
namespace Ck
open PySem PySem.Spec PyProof.Rows L2 Fw Evl
theorem okBl_inv {S : Su} {b : Bl} (h : okBl S b = true) : (0 ≤ b.s ∧ b.s < S.q) ∧ (0 ≤ b.u ∧ b.u < S.q) ∧ (0 ≤ b.v ∧ b.v < S.q) ∧ (0 ≤ b.x0 ∧ b.x0 < S.q) ∧ (0 ≤ b.x1 ∧ b.x1 < S.q) ∧ (0 ≤ b.x2 ∧ b.x2 < S.q) ∧ (0 ≤ b.x3 ∧ b.x3 < S.q) ∧ b.s ≠ 0 ∧ b.u ≠ 0 := by
  unfold okBl at h
  simp only [List.all_cons, List.all_nil, isEx, Bool.and_eq_true, decide_eq_true_eq, Bool.not_eq_true', Bool.or_eq_false_iff, decide_eq_false_iff_not] at h
  obtain ⟨⟨h1, h2, h3, h4, h5, h6, h7, _⟩, h8, h9⟩ := h
  exact ⟨h1, h2, h3, h4, h5, h6, h7, h8, h9⟩
theorem okPe_inv {S : Su} {p : Pe} (h : okPe S p = true) : (0 ≤ p.n ∧ p.n < S.q) ∧ (0 ≤ p.a ∧ p.a ≤ 4) ∧ 0 ≤ p.z ∧ p.z ≤ 4 := by
  unfold okPe at h
  simp only [isEx, Bool.and_eq_true, decide_eq_true_eq] at h
  exact h
local macro_rules | `(tactic| walk_at "nf6") => `(tactic| show Sa _ _ _ _ ⟨[_, _, _, _, _, _], none⟩ _)
local macro_rules | `(tactic| walk_at "nf13") => `(tactic| show Sa _ _ _ _ ⟨[_, _, _, _, _, _, _, _, _, _, _, _, _], none⟩ _)
local macro_rules | `(tactic| walk_at "nf9") => `(tactic| show Sa _ _ _ _ ⟨[_, _, _, _, _, _, _, _, _], none⟩ _)
section
variable {P : Program} {w : World} {K : PySem.W.Frag} {mg : Str → Option Value} {base : Heap} {ea : Er → Addr} {CE : Addr}
/-! ### challenge_for -/
abbrev n_challenge_for : List Str := ["q", "numbers"]
theorem sc_challenge_for : FnScope n_challenge_for ["q", "numbers"] (defScope schallenge_for) := ⟨rfl, rfl, rfl, by decide +kernel, rfl, by decide +kernel, by decide +kernel⟩
theorem ok_challenge_for (T : Tx K mg ea CE) (c_challenge_of : Callee P w K mg base CX0 3 "challenge_of" (spF K ea F_challenge_of)) {f : Addr} {fd : FuncData} (G : FnP K "challenge_for" schallenge_for f fd) (hm : mg "challenge_for" = some (.ref f)) : Callee P w K mg base CX0 4 "challenge_for" (spF K ea F_challenge_for) := by
  refine okV (k := 3) G hm sc_challenge_for ?len (fun _ _ _ _ _ _ us hl => match us, hl with | [_, _], _ => rfl) fun cdv A outer s H _E hr => ?_
  case len => exact l_challenge_for
  refine ⟨_, (pss_one (ps_ret (c_challenge_of.c0 (W := W0) hr rfl (pa_cons (pv 0) (pa_cons pe_str (pa_cons (pe_callTy call_list_of rfl T.flist boot_list (pa_cons (pv 1) pa_nil)) pa_nil)))))), fun ds r hF => ?_⟩
  obtain ⟨q, f, rfl, hq, hs, rfl⟩ := hF
  refine sa_ret (vl_call (va_cons (vl_var rfl (va_cons (vl_str (va_cons (vl_vn (vn_listOf (vl_var rfl (.inr ⟨_, rfl, (va_nil (u_co5 ?_ ?_))⟩))))))))))
  · exact ⟨hq, by decide +kernel, hs⟩
  · rfl
/-! ### request_of -/
abbrev n_request_of : List Str := ["setup", "person", "offer", "blinding", "q", "numbers"]
theorem sc_request_of : FnScope n_request_of ["setup", "person", "offer", "blinding"] (defScope srequest_of) := ⟨rfl, rfl, rfl, by decide +kernel, rfl, by decide +kernel, by decide +kernel⟩
theorem ok_request_of (T : Tx K mg ea CE) (c_quotient : Callee P w K mg base (L2.CX P w) 2 "quotient" (spF K ea F_quotient)) (c_hidden : Callee P w K mg base (L2.CX P w) 8 "hidden" (spF K ea F_hidden)) (c_challenge_for : Callee P w K mg base CX0 4 "challenge_for" (spF K ea F_challenge_for)) {f : Addr} {fd : FuncData} (G : FnP K "request_of" srequest_of f fd) (hm : mg "request_of" = some (.ref f)) : Callee P w K mg base (L2.CX P w) 9 "request_of" (spF K ea F_request_of) := by
  refine okX (k := 8) G hm sc_request_of ?len (fun _ _ _ _ _ _ us hl => match us, hl with | [_, _, _, _], _ => rfl) fun cdv A outer s H E hr => ?_
  case len => exact l_request_of
  refine ⟨_, (pss_cons (ps_set (i := 4) sc_request_of.nd rfl (.inl rfl) (pe_ix (ixT (K := K) rfl) (pv 0) pe_int (fun _ _ => rfl)))
      (pss_cons (ps_set (i := 5) sc_request_of.nd rfl (.inl rfl) (c_hidden.cX (W := (WF E)) hr rfl (takes_of rfl rfl rfl rfl) (pa_cons (pv 0) (pa_cons (pv 1) (pa_cons (pv 2) (pa_cons (pv 3) pa_nil))))))
      (pss_one (ps_ret (c_quotient.cX (W := (WF E)) (hr.mono (by decide)) rfl (takes_of rfl rfl rfl rfl) (pa_cons (pv 4) (pa_cons (c_challenge_for.c0 (W := (WF E)) (hr.mono (by decide)) rfl (pa_cons (pv 4) (pa_cons (pv 5) pa_nil))) (pa_cons (pe_ix (ixT (K := K) rfl) (pv 3) pe_int (fun _ _ => rfl)) pa_nil)))))))), fun ds r hF => ?_⟩
  obtain ⟨S, p, o, b, rfl, hq, rfl⟩ := hF
  have hq1 := hq.1
  have hq2 := hq.2
  refine sa_seq ?_
  refine sa_asg (vl_op (vl_var rfl (vl_int (op_ixT rfl (ga_name (.inl rfl) ?_)))))
  walk_at "nf6"
  refine sa_seq ?_
  refine sa_asg (vl_call (va_cons (vl_var rfl (va_cons (vl_var rfl (va_cons (vl_var rfl (va_cons (vl_var rfl (va_nil (u_hidden hq (fun v1 hv1 => (ga_name (.inl rfl) ?_)) (fun er he => ?_))))))))))))
  · walk_at "nf6"
    refine sa_ret (vl_call (va_cons (vl_var rfl (va_cons (vl_call (va_cons (vl_var rfl (va_cons (vl_var rfl (va_nil (u_challenge_for ?_ (va_cons (vl_op (vl_var rfl (vl_int (op_ixT rfl (va_nil (u_quotient hq (fun v2 hv2 => ?_) (fun er he => ?_)))))))))))))))))))
    · exact ⟨by omega, hidden_sm hq hv1⟩
    · show (requestM S p o b).map _ = _
      simp only [requestM, hv1, bok, hv2]
      rfl
    · show (requestM S p o b).map _ = _
      simp only [requestM, hv1, bok, he]
      rfl
  · show (requestM S p o b).map _ = _
    simp only [requestM, he, ber]
    rfl
/-! ### is_granted -/
abbrev n_is_granted : List Str := ["q", "base", "r", "first", "second", "c"]
theorem sc_is_granted : FnScope n_is_granted ["q", "base", "r", "first", "second", "c"] (defScope sis_granted) := ⟨rfl, rfl, rfl, by decide +kernel, rfl, by decide +kernel, by decide +kernel⟩
theorem ok_is_granted (T : Tx K mg ea CE) (c_power : Callee P w K mg base (L2.CX P w) 4 "power" (spF K ea F_power)) (c_product : Callee P w K mg base (L2.CX P w) 4 "product" (spF K ea F_product)) {f : Addr} {fd : FuncData} (G : FnP K "is_granted" sis_granted f fd) (hm : mg "is_granted" = some (.ref f)) : Callee P w K mg base (L2.CX P w) 5 "is_granted" (spF K ea F_is_granted) := by
  refine okX (k := 4) G hm sc_is_granted ?len (fun _ _ _ _ _ _ us hl => match us, hl with | [_, _, _, _, _, _], _ => rfl) fun cdv A outer s H E hr => ?_
  case len => exact l_is_granted
  refine ⟨_, (pss_one (ps_ret (pe_cmpR op_eq (c_power.cX (W := (WF E)) hr rfl (takes_of rfl rfl rfl rfl) (pa_cons (pv 0) (pa_cons (pv 1) (pa_cons (pv 2) pa_nil)))) (c_product.cX (W := (WF E)) hr rfl (takes_of rfl rfl rfl rfl) (pa_cons (pv 0) (pa_cons (pv 3) (pa_cons (c_power.cX (W := (WF E)) hr rfl (takes_of rfl rfl rfl rfl) (pa_cons (pv 0) (pa_cons (pv 4) (pa_cons (pv 5) pa_nil)))) pa_nil)))) (nomark _)))), fun ds r hF => ?_⟩
  obtain ⟨q, b, r0, f, s, c, rfl, hq, rfl⟩ := hF
  refine sa_ret (vl_op (vl_call (va_cons (vl_var rfl (va_cons (vl_var rfl (va_cons (vl_var rfl (va_nil (u_power hq (fun v3 hv3 => (vl_call (va_cons (vl_var rfl (va_cons (vl_var rfl (va_cons (vl_call (va_cons (vl_var rfl (va_cons (vl_var rfl (va_cons (vl_var rfl (va_nil (u_power hq (fun v2 hv2 => (va_nil (u_product hq (fun v1 hv1 => (op_eqI ?_)) (fun er he => ?_)))) (fun er he => ?_))))))))))))))))) (fun er he => ?_)))))))))))
  · show (isGr q b r0 f s c).map _ = _
    simp only [isGr, hv3, hv2, hv1, bok]
    rfl
  · show (isGr q b r0 f s c).map _ = _
    simp only [isGr, hv3, hv2, he, bok, ber]
    rfl
  · show (isGr q b r0 f s c).map _ = _
    simp only [isGr, hv3, he, bok, ber]
    rfl
  · show (isGr q b r0 f s c).map _ = _
    simp only [isGr, he, ber]
    rfl
/-! ### ticket_of -/
abbrev n_ticket_of : List Str := ["setup", "key", "person", "offer", "blinding", "r", "numbers", "q", "bases", "z", "a", "b", "c"]
theorem sc_ticket_of : FnScope n_ticket_of ["setup", "key", "person", "offer", "blinding", "r"] (defScope sticket_of) := ⟨rfl, rfl, rfl, by decide +kernel, rfl, by decide +kernel, by decide +kernel⟩
theorem ok_ticket_of (T : Tx K mg ea CE) (c_quotient : Callee P w K mg base (L2.CX P w) 2 "quotient" (spF K ea F_quotient)) (c_mark_of : Callee P w K mg base (L2.CX P w) 7 "mark_of" (spF K ea F_mark_of)) (c_check_exponents : Callee P w K mg base (L2.CX P w) 2 "check_exponents" (spF K ea F_check_exponents)) (c_hidden : Callee P w K mg base (L2.CX P w) 8 "hidden" (spF K ea F_hidden)) (c_challenge_for : Callee P w K mg base CX0 4 "challenge_for" (spF K ea F_challenge_for)) (c_is_granted : Callee P w K mg base (L2.CX P w) 5 "is_granted" (spF K ea F_is_granted)) {f : Addr} {fd : FuncData} (G : FnP K "ticket_of" sticket_of f fd) (hm : mg "ticket_of" = some (.ref f)) : Callee P w K mg base (L2.CX P w) 9 "ticket_of" (spF K ea F_ticket_of) := by
  refine okX (k := 8) G hm sc_ticket_of ?len (fun _ _ _ _ _ _ us hl => match us, hl with | [_, _, _, _, _, _], _ => rfl) fun cdv A outer s H E hr => ?_
  case len => exact l_ticket_of
  refine ⟨_, (pss_cons (ps_set (i := 6) sc_ticket_of.nd rfl (.inl rfl) (c_hidden.cX (W := (WF E)) hr rfl (takes_of rfl rfl rfl rfl) (pa_cons (pv 0) (pa_cons (pv 2) (pa_cons (pv 3) (pa_cons (pv 4) pa_nil))))))
      (pss_cons (ps_expr (c_check_exponents.cX (W := (WF E)) (hr.mono (by decide)) rfl (takes_of rfl rfl rfl rfl) (pa_cons (pv 0) (pa_cons (pe_lst (pa_cons (pv 5) pa_nil)) pa_nil))))
      (pss_cons (ps_asg (pv 0) (pg_tup rfl (pgs_cons (pg_name (i := 7) sc_ticket_of.nd rfl (.inl rfl)) (pgs_cons (pg_name (i := 8) sc_ticket_of.nd rfl (.inl rfl)) pgs_nil))))
      (pss_cons (ps_asg (pv 3) (pg_tup rfl (pgs_cons (pg_name (i := 9) sc_ticket_of.nd rfl (.inl rfl)) (pgs_cons (pg_name (i := 10) sc_ticket_of.nd rfl (.inl rfl)) (pgs_cons (pg_name (i := 11) sc_ticket_of.nd rfl (.inl rfl)) pgs_nil)))))
      (pss_cons (ps_set (i := 12) sc_ticket_of.nd rfl (.inl rfl) (c_quotient.cX (W := (WF E)) (hr.mono (by decide)) rfl (takes_of rfl rfl rfl rfl) (pa_cons (pv 7) (pa_cons (c_challenge_for.c0 (W := (WF E)) (hr.mono (by decide)) rfl (pa_cons (pv 7) (pa_cons (pv 6) pa_nil))) (pa_cons (pe_ix (ixT (K := K) rfl) (pv 4) pe_int (fun _ _ => rfl)) pa_nil)))))
      (pss_cons (ps_if (PW.pt (pw_or (pt_not (pt_val (c_is_granted.cX (W := (WF E)) (hr.mono (by decide)) rfl (takes_of rfl rfl rfl rfl) (pa_cons (pv 7) (pa_cons (pe_ix (ixT (K := K) rfl) (pv 8) pe_int (fun _ _ => rfl)) (pa_cons (pv 5) (pa_cons (pv 10) (pa_cons (pv 1) (pa_cons (pv 12) pa_nil))))))))) (pw_or1 (pt_not (pt_val (c_is_granted.cX (W := (WF E)) (hr.mono (by decide)) rfl (takes_of rfl rfl rfl rfl) (pa_cons (pv 7) (pa_cons (c_mark_of.cX (W := (WF E)) (hr.mono (by decide)) rfl (takes_of rfl rfl rfl rfl) (pa_cons (pv 0) (pa_cons (pv 2) pa_nil))) (pa_cons (pv 5) (pa_cons (pv 11) (pa_cons (pv 9) (pa_cons (pv 12) pa_nil)))))))))))) (pss_one (ps_rse (W := (WF E)) rfl (takes_of rfl rfl rfl rfl) T.xBP T.gBP T.kBP T.bBP T.tBP rfl)) pss_nil)
      (pss_one (ps_ret (pe_op op_catA (pv 6) (pe_tup (pa_cons (pe_op op_mod (pe_op op_add (pe_op op_mul (pe_ix (ixT (K := K) rfl) (pv 4) pe_int (fun _ _ => rfl)) (pv 5)) (pe_ix (ixT (K := K) rfl) (pv 4) pe_int (fun _ _ => rfl))) (pv 7)) pa_nil))))))))))), fun ds r hF => ?_⟩
  obtain ⟨S, key, p, o, b, r0, rfl, hq, rfl⟩ := hF
  have hq1 := hq.1
  have hq2 := hq.2
  refine sa_seq ?_
  refine sa_asg (vl_call (va_cons (vl_var rfl (va_cons (vl_var rfl (va_cons (vl_var rfl (va_cons (vl_var rfl (va_nil (u_hidden hq (fun n hn => (ga_name (.inl rfl) ?_)) (fun er he => ?_))))))))))))
  · walk_at "nf13"
    obtain ⟨_, _, _, _, _, _, _, hbl, _⟩ := hidden_inv hn
    have hbr := (okBl_inv hbl).2.1
    refine sa_seq ?_
    refine sa_drop (vl_call (va_cons (vl_var rfl (va_cons (vl_vn (vn_lst (va_cons (vl_var rfl (va_nil ⟨fl_ rfl, ln_ rfl, (va_nil (u_ce1 (fun hc2 => ?_) (fun hc2 => ?_)))⟩)))))))))
    · refine sa_seq ?_
      refine sa_asg (vl_var rfl (ga_tup rfl (gs_name (gs_name (gs_nil ?_)))))
      walk_at "nf13"
      refine sa_seq ?_
      refine sa_asg (vl_var rfl (ga_tup rfl (gs_name (gs_name (gs_name (gs_nil ?_))))))
      walk_at "nf13"
      refine sa_seq ?_
      refine sa_asg (vl_call (va_cons (vl_var rfl (va_cons (vl_call (va_cons (vl_var rfl (va_cons (vl_var rfl (va_nil (u_challenge_for ?_ (va_cons (vl_op (vl_var rfl (vl_int (op_ixT rfl (va_nil (u_quotient hq (fun c hc => (ga_name (.inl rfl) ?_)) (fun er he => ?_)))))))))))))))))))
      · exact ⟨by omega, hidden_sm hq hn⟩
      · walk_at "nf13"
        refine sa_seq ?_
        refine sa_if (vt_or (vt_not (vt_B (vl_call (va_cons (vl_var rfl (va_cons (vl_op (vl_var rfl (vl_int (op_ixT rfl (va_cons (vl_var rfl (va_cons (vl_var rfl (va_cons (vl_var rfl (va_cons (vl_var rfl (va_nil (u_is_granted hq (fun g1 hg1 => ⟨_, rfl, ⟨fun h => (vt_not (vt_B (vl_call (va_cons (vl_var rfl (va_cons (vl_call (va_cons (vl_var rfl (va_cons (vl_var rfl (va_nil (u_mark_of hq (fun m hm => (va_cons (vl_var rfl (va_cons (vl_var rfl (va_cons (vl_var rfl (va_cons (vl_var rfl (va_nil (u_is_granted hq (fun g2 hg2 => ⟨_, rfl, ⟨fun h2 => ?_, fun h2 => ?_⟩⟩) (fun er he => ?_)))))))))))) (fun er he => ?_)))))))))))))), fun h => ?_⟩⟩) (fun er he => ?_))))))))))))))))))))))
        · refine sa_raise ?_
          show (ticketM S key p o b r0).map _ = _
          simp only [Bool.not_eq_false', Bool.not_eq_true'] at h h2
          subst h h2
          simp only [ticketM, hn, bok, hc2, hc, hg1, hm, hg2, Bool.false_eq_true, ↓reduceIte]
          rfl
        · simp only [Bool.not_eq_false', Bool.not_eq_true'] at h h2
          subst h h2
          refine sa_next ?_
          refine sa_ret (vl_op (vl_var rfl (vl_tup (va_cons (vl_op (vl_op (vl_op (vl_op (vl_var rfl (vl_int (op_ixT rfl (vl_var rfl (op_I ?_ (vl_op (vl_var rfl (vl_int (op_ixT rfl (op_I0 (vl_var rfl (op_I ?_ (va_nil ⟨fl_ rfl, ln_ rfl, (op_catD (ln_ rfl) ?_)⟩)))))))))))))))))))))
          · exact .inl ⟨by omega, by omega⟩
          · show 0 < S.q
            omega
          · show (ticketM S key p o b r0).map _ = _
            simp only [ticketM, hn, bok, hc2, hc, hg1, hm, hg2, ↓reduceIte]
            rfl
        · simp only [Bool.not_eq_false', Bool.not_eq_true'] at h
          subst h
          show (ticketM S key p o b r0).map _ = _
          simp only [ticketM, hn, bok, hc2, hc, hg1, hm, he, ber, ↓reduceIte]
          rfl
        · simp only [Bool.not_eq_false', Bool.not_eq_true'] at h
          subst h
          show (ticketM S key p o b r0).map _ = _
          simp only [ticketM, hn, bok, hc2, hc, hg1, he, ber, ↓reduceIte]
          rfl
        · simp only [Bool.not_eq_false', Bool.not_eq_true'] at h
          subst h
          refine ⟨fun _ => sa_raise ?_, (fun z => by cases z)⟩
          show (ticketM S key p o b r0).map _ = _
          simp only [ticketM, hn, bok, hc2, hc, hg1, Bool.false_eq_true, ↓reduceIte]
          rfl
        · show (ticketM S key p o b r0).map _ = _
          simp only [ticketM, hn, bok, hc2, hc, he, ber, ↓reduceIte]
          rfl
      · show (ticketM S key p o b r0).map _ = _
        simp only [ticketM, hn, bok, hc2, he, ber, ↓reduceIte]
        rfl
    · show (ticketM S key p o b r0).map _ = _
      simp only [ticketM, hn, bok, hc2, Bool.false_eq_true, ↓reduceIte]
      rfl
  · show (ticketM S key p o b r0).map _ = _
    simp only [ticketM, he, ber]
    rfl
/-! ### spend_of -/
abbrev n_spend_of : List Str := ["setup", "person", "blinding", "d", "exponents", "scale", "answers", "x", "exponent"]
theorem sc_spend_of : FnScope n_spend_of ["setup", "person", "blinding", "d"] (defScope sspend_of) := ⟨rfl, rfl, rfl, by decide +kernel, rfl, by decide +kernel, by decide +kernel⟩
theorem ok_spend_of (T : Tx K mg ea CE) (c_check_person : Callee P w K mg base (L2.CX P w) 2 "check_person" (spF K ea F_check_person)) (c_check_exponents : Callee P w K mg base (L2.CX P w) 2 "check_exponents" (spF K ea F_check_exponents)) (c_check_blinding : Callee P w K mg base (L2.CX P w) 3 "check_blinding" (spF K ea F_check_blinding)) {f : Addr} {fd : FuncData} (G : FnP K "spend_of" sspend_of f fd) (hm : mg "spend_of" = some (.ref f)) : Callee P w K mg base (L2.CX P w) 4 "spend_of" (spF K ea F_spend_of) := by
  refine okX (k := 3) G hm sc_spend_of ?len (fun _ _ _ _ _ _ us hl => match us, hl with | [_, _, _, _], _ => rfl) fun cdv A outer s H E hr => ?_
  case len => exact l_spend_of
  refine ⟨_, (pss_cons (ps_expr (c_check_person.cX (W := (WF E)) (hr.mono (by decide)) rfl (takes_of rfl rfl rfl rfl) (pa_cons (pv 0) (pa_cons (pv 1) pa_nil))))
      (pss_cons (ps_expr (c_check_blinding.cX (W := (WF E)) hr rfl (takes_of rfl rfl rfl rfl) (pa_cons (pv 0) (pa_cons (pv 2) pa_nil))))
      (pss_cons (ps_expr (c_check_exponents.cX (W := (WF E)) (hr.mono (by decide)) rfl (takes_of rfl rfl rfl rfl) (pa_cons (pv 0) (pa_cons (pe_lst (pa_cons (pv 3) pa_nil)) pa_nil))))
      (pss_cons (ps_set (i := 4) sc_spend_of.nd rfl (.inl rfl) (pe_op op_catA (pe_tup (pa_cons pe_int pa_nil)) (pe_callTy call_tuple_of rfl T.ftuple boot_tuple (pa_cons (pv 1) pa_nil))))
      (pss_cons (ps_set (i := 5) sc_spend_of.nd rfl (.inr rfl) (pe_op op_mul (pv 3) (pe_ix (ixT (K := K) rfl) (pv 2) pe_int (fun _ _ => rfl))))
      (pss_cons (ps_setLc (i := 6) (own := [("x", 7), ("exponent", 8)]) (g := gTup K 2 (gCons (gName 7) (gCons (gName 8) (gNil)))) (tt := tYes) rfl sc_spend_of.nd rfl rfl (sw_true rfl rfl rfl (by decide +kernel)) (RZ.pi_zipA rfl T.fzip (pa_cons (pe_ix (ixT (K := K) rfl) (pv 2) pe_int (fun _ _ => rfl)) (pa_cons (pv 4) pa_nil))) (blkOk_by (N := n_spend_of) (sc := defScope sspend_of) (by decide +kernel)) (fun _ _ _ _ _ => (pg_tup rfl (pgs_cons (pg_name (i := 7) sc_spend_of.nd rfl (Or.inl rfl) (hf := .inr rfl)) (pgs_cons (pg_name (i := 8) sc_spend_of.nd rfl (Or.inl rfl) (hf := .inr rfl)) pgs_nil)))) (fun _ _ _ _ _ => pts_nil) (fun _ _ _ _ _ => (pe_op op_mod (pe_op op_add (pv 7) (pe_op op_mul (pv 5) (pv 8))) (pe_ix (ixT (K := K) rfl) (pv 0) pe_int (fun _ _ => rfl)))))
      (pss_one (ps_ret (pe_tup (pa_cons (pv 3) (pa_cons (pe_callTy call_tuple_of rfl T.ftuple boot_tuple (pa_cons (pv 6) pa_nil)) pa_nil))))))))))), fun ds r hF => ?_⟩
  obtain ⟨S, p, b, d, rfl, hq, rfl⟩ := hF
  have hq1 := hq.1
  have hq2 := hq.2
  refine sa_seq ?_
  refine sa_drop (vl_call (va_cons (vl_var rfl (va_cons (vl_var rfl (va_nil (u_check_person trivial (fun hc1 => ?_) (fun hc1 => ?_))))))))
  · refine sa_seq ?_
    refine sa_drop (vl_call (va_cons (vl_var rfl (va_cons (vl_var rfl (va_nil (u_check_blinding trivial (fun hc2 => ?_) (fun hc2 => ?_))))))))
    · have hbr := okBl_inv hc2
      have hpr := okPe_inv hc1
      refine sa_seq ?_
      refine sa_drop (vl_call (va_cons (vl_var rfl (va_cons (vl_vn (vn_lst (va_cons (vl_var rfl (va_nil ⟨fl_ rfl, ln_ rfl, (va_nil (u_ce1 (fun hc3 => ?_) (fun hc3 => ?_)))⟩)))))))))
      · refine sa_seq ?_
        refine sa_asg (vl_op (vl_tup (va_cons (vl_int (va_nil ⟨fl_ rfl, ln_ rfl, (vl_tupOf (vl_var rfl (.inr ⟨_, rfl, (op_catD (ln_ rfl) (ga_name (.inl rfl) ?_))⟩)))⟩)))))
        walk_at "nf9"
        refine sa_seq ?_
        refine sa_asg (vl_op (vl_var rfl (vl_op (vl_var rfl (vl_int (op_ixT rfl (op_I ?_ (ga_name (.inl rfl) ?_))))))))
        · exact .inr ⟨by omega, by omega⟩
        walk_at "nf9"
        refine sa_seq ?_
        refine sa_asgN (vn_lc2 (by decide) (iw_zipT (vl_op (vl_var rfl (vl_int (op_ixT rfl ⟨_, rfl, (vl_var rfl ⟨_, rfl, ⟨[.int ((b.x0 + d * b.s * 1) % S.q), .int ((b.x1 + d * b.s * p.n) % S.q), .int ((b.x2 + d * b.s * p.a) % S.q), .int ((b.x3 + d * b.s * p.z) % S.q)], rfl, ln_ rfl, ?_, ?_⟩⟩)⟩))))))
        · walk_at "nf9"
          refine sa_ret (vl_tup (va_cons (vl_var rfl (va_cons (vl_tupOf (vl_var rfl (.inl ⟨_, rfl, (va_nil ⟨fl_ rfl, ln_ rfl, ?_⟩)⟩)))))))
          show (spendM S p b d).map _ = _
          simp only [spendM, hc1, hc2, hc3, ↓reduceIte]
          rfl
        · intro k dd r hd hr'
          have go : ∃ x y : Int, dd = .tuple [.int x, .int y] ∧ r = .int ((x + d * b.s * y) % S.q) ∧ -(2 ^ 64) < y ∧ y < 2 ^ 64 := match k, hd, hr' with
            | 0, hd, hr' => ⟨b.x0, 1, (Option.some.inj hd).symm, (Option.some.inj hr').symm, by omega, by omega⟩
            | 1, hd, hr' => ⟨b.x1, p.n, (Option.some.inj hd).symm, (Option.some.inj hr').symm, by omega, by omega⟩
            | 2, hd, hr' => ⟨b.x2, p.a, (Option.some.inj hd).symm, (Option.some.inj hr').symm, by omega, by omega⟩
            | 3, hd, hr' => ⟨b.x3, p.z, (Option.some.inj hd).symm, (Option.some.inj hr').symm, by omega, by omega⟩
            | k + 4, hd, _ => nomatch hd
          obtain ⟨x, y, rfl, rfl, y0, y1⟩ := go
          refine ⟨⟨_, _, rfl⟩, rfl, ?_⟩
          refine vl_op (vl_op (vl_var rfl (vl_op (vl_var rfl (vl_var rfl (op_I ?_ (op_I0 (vl_op (vl_var rfl (vl_int (op_ixT rfl (op_I ?_ rfl))))))))))))
          · exact .inr ⟨y0, y1⟩
          · show 0 < S.q
            omega
      · show (spendM S p b d).map _ = _
        simp only [spendM, hc1, hc2, hc3, Bool.false_eq_true, ↓reduceIte]
        rfl
    · show (spendM S p b d).map _ = _
      simp only [spendM, hc1, hc2, Bool.false_eq_true, ↓reduceIte]
      rfl
  · show (spendM S p b d).map _ = _
    simp only [spendM, hc1, Bool.false_eq_true, ↓reduceIte]
    rfl
end
end Ck
set_option Elab.async false
set_option linter.all false
set_option autoImplicit false
set_option maxRecDepth 100000
set_option maxHeartbeats 1000000
/-! P6: explain_ticket. -/
namespace Ck
open PySem PySem.Spec PyProof.Rows L2 Fw Evl
/-- four numbers of a ticket are small -/
def TRng (t : Ti) : Prop := (0 ≤ t.B ∧ t.B < 8192) ∧ (0 ≤ t.z ∧ t.z < 8192) ∧ (0 ≤ t.a ∧ t.a < 8192) ∧ 0 ≤ t.b ∧ t.b < 8192
/-- what explain_ticket asks of its arguments -/
def Pre (S : Su) (p : Pe) (t : Ti) : Prop := Od S.q ∧ TRng t ∧ ∀ m, markM S p = .ok m → LogOk S.q m t.A
def F_inner_challenge (ds : List PyData) (r : Except Er PyData) : Prop := ∃ (S : Su) (t : Ti), ds = [dSu S, dTi t] ∧ 2 ≤ S.q ∧ Sm t.fi.l ∧ r = .ok (.int (chalM S.q t.fi))
theorem l_inner_challenge (ds : List PyData) (r : Except Er PyData) (h : F_inner_challenge ds r) : ds.length = 2 := by obtain ⟨_, _, rfl, _⟩ := h; rfl
theorem u_inner_challenge {P : PyData → Prop} {R : Er → Prop} {S : Su} {t : Ti} (h : 2 ≤ S.q ∧ Sm t.fi.l) (k : P (.int (chalM S.q t.fi))) : ∃ r, F_inner_challenge [dSu S, dTi t] r ∧ (∀ d, r = .ok d → P d) ∧ (∀ er, r = .error er → R er) := use0 ⟨_, _, rfl, h.1, h.2, rfl⟩ k
def F_blinding_of (ds : List PyData) (r : Except Er PyData) : Prop := ∃ (S : Su) (rec : Re) (t : Ti) (sp : Sp), ds = [dSu S, dRe rec, dTi t, dSp sp] ∧ Pre S rec.p t ∧ r = (blindM S rec t sp).map (fun b => dBl b)
theorem l_blinding_of (ds : List PyData) (r : Except Er PyData) (h : F_blinding_of ds r) : ds.length = 4 := by obtain ⟨_, _, _, _, rfl, _⟩ := h; rfl
theorem u_blinding_of {P : PyData → Prop} {R : Er → Prop} {S : Su} {rec : Re} {t : Ti} {sp : Sp} (h : Pre S rec.p t) (h1 : ∀ b, blindM S rec t sp = .ok b → P (dBl b)) (h2 : ∀ er, blindM S rec t sp = .error er → R er) : ∃ r, F_blinding_of [dSu S, dRe rec, dTi t, dSp sp] r ∧ (∀ d, r = .ok d → P d) ∧ (∀ er, r = .error er → R er) := useX (c := fun n => dBl n) ⟨_, _, _, _, rfl, h, rfl⟩ h1 h2
/-- None, or a blinding -/
def dOb : Option Bl → PyData
  | none => .none
  | some b => dBl b
def F_explain_ticket (ds : List PyData) (r : Except Er PyData) : Prop := ∃ (S : Su) (key : Int) (rec : Re) (t : Ti) (sp : Sp), ds = [dSu S, .int key, dRe rec, dTi t, dSp sp] ∧ Pre S rec.p t ∧ r = .ok (dOb (explainM S key rec t sp))
theorem l_explain_ticket (ds : List PyData) (r : Except Er PyData) (h : F_explain_ticket ds r) : ds.length = 5 := by obtain ⟨_, _, _, _, _, rfl, _⟩ := h; rfl
theorem u_explain_ticket {P : PyData → Prop} {R : Er → Prop} {S : Su} {key : Int} {rec : Re} {t : Ti} {sp : Sp} (h : Pre S rec.p t) (k : P (dOb (explainM S key rec t sp))) : ∃ r, F_explain_ticket [dSu S, .int key, dRe rec, dTi t, dSp sp] r ∧ (∀ d, r = .ok d → P d) ∧ (∀ er, r = .error er → R er) := use0 ⟨_, _, _, _, _, rfl, h, rfl⟩ k
/-! ### facts -/
theorem logM_inv {q b v x : Int} (h : logM q b v = .ok x) : isEl q b = true ∧ isEl q v = true ∧ b ≠ 1 ∧ ∃ k : Nat, k < q.toNat ∧ x = k ∧ b ^ k % (2 * q + 1) = v := by
  unfold logM at h
  split at h
  · rename_i h1
    split at h
    · rename_i h2
      split at h
      · cases h
      · rename_i h3
        cases hf : (List.range q.toNat).find? (fun k => decide (b ^ k % (2 * q + 1) = v)) with
        | none => rw [hf] at h; cases h
        | some k =>
          rw [hf] at h
          cases h
          have e := List.find?_some hf
          have m := List.mem_of_find?_eq_some hf
          exact ⟨h1, h2, h3, k, by simpa using m, rfl, by simpa using e⟩
    · cases h
  · cases h
theorem quoM_inv {q a b x : Int} (hq : 0 < q) (h : quoM q a b = .ok x) : 0 ≤ x ∧ x < q ∧ b % q ≠ 0 ∧ x = a * pw b (q - 2) q % q := by
  unfold quoM at h
  split at h
  · cases h
  · rename_i h1
    cases h
    have := mod_rng (a * pw b (q - 2) q) q hq
    exact ⟨this.1, this.2, h1, rfl⟩
theorem markM_inv {S : Su} {p : Pe} {m : Int} (h : markM S p = .ok m) : okPe S p = true ∧ pmarkM S p = .ok m ∧ m ≠ 1 := by
  unfold markM at h
  split at h
  · rename_i h1
    cases hp : pmarkM S p with
    | error e => rw [hp] at h; cases h
    | ok m' =>
      rw [hp] at h
      have h' : (if m' = 1 then Except.error Er.na else .ok m') = .ok m := h
      split at h'
      · cases h'
      · rename_i h2
        cases h'
        exact ⟨h1, rfl, h2⟩
  · cases h
theorem pre_sm {S : Su} {p : Pe} {t : Ti} (h : Pre S p t) (he : isEl S.q t.A = true) : Sm t.fi.l := by
  have hq := h.1.2
  have ha := isEl_inv he
  obtain ⟨h1, h2, h3, h4⟩ := h.2.1
  refine sm5 fun x hx => ?_
  unfold Fi.l Ti.fi at hx
  simp only [List.mem_cons, List.not_mem_nil, or_false] at hx
  rcases hx with rfl | rfl | rfl | rfl | rfl <;> omega
theorem eqv_i (i j : Int) : PyData.eqv (.int i) (.int j) = decide (i = j) := by
  rw [PyData.eqv]
  exact Bool.beq_eq_decide_eq i j
theorem eqv_t (a b : List PyData) : PyData.eqv (.tuple a) (.tuple b) = PyData.eqvAll a b := by rw [PyData.eqv]
theorem eqv_c (a b : PyData) (r s : List PyData) : PyData.eqvAll (a :: r) (b :: s) = (PyData.eqv a b && PyData.eqvAll r s) := by rw [PyData.eqvAll]
theorem eqv_n : PyData.eqvAll [] [] = true := by rw [PyData.eqvAll]
theorem eqv_Ti (a b : Ti) : PyData.eqv (dTi a) (dTi b) = decide (a = b) := by
  obtain ⟨a1, a2, a3, a4, a5, a6⟩ := a
  obtain ⟨b1, b2, b3, b4, b5, b6⟩ := b
  simp only [eqv_t, eqv_c, eqv_n, eqv_i, Bool.and_true, ← Bool.decide_and, Ti.mk.injEq]
theorem eqv_Sp (a b : Sp) : PyData.eqv (dSp a) (dSp b) = decide (a = b) := by
  obtain ⟨a1, a2, a3, a4, a5⟩ := a
  obtain ⟨b1, b2, b3, b4, b5⟩ := b
  simp only [eqv_t, eqv_c, eqv_n, eqv_i, Bool.and_true, ← Bool.decide_and, Sp.mk.injEq]
theorem eqv_Pe (a b : Pe) : PyData.eqv (dPe a) (dPe b) = decide (a = b) := by
  obtain ⟨a1, a2, a3⟩ := a
  obtain ⟨b1, b2, b3⟩ := b
  simp only [eqv_t, eqv_c, eqv_n, eqv_i, Bool.and_true, ← Bool.decide_and, Pe.mk.injEq]
theorem eqv_Bl (a b : Bl) : PyData.eqv (dBl a) (dBl b) = decide (a = b) := by
  obtain ⟨a1, a2, a3, a4, a5, a6, a7⟩ := a
  obtain ⟨b1, b2, b3, b4, b5, b6, b7⟩ := b
  simp only [eqv_t, eqv_c, eqv_n, eqv_i, Bool.and_true, ← Bool.decide_and, Bl.mk.injEq]
theorem eqv_pair (a b : Ti) (c d : Sp) : PyData.eqv (.tuple [dTi a, dSp c]) (.tuple [dTi b, dSp d]) = decide (a = b ∧ c = d) := by
  rw [eqv_t, eqv_c, eqv_c, eqv_n, eqv_Ti, eqv_Sp, Bool.and_true, Bool.decide_and]
theorem sh_i (i : Int) : PyData.canLay0 (.int i) = true := by rw [PyData.canLay0]
theorem sh_pair (a : Ti) (c : Sp) : SeqAt.shaped (.tuple [dTi a, dSp c]) = true := by
  simp [SeqAt.shaped, PyData.canLay0, PyData.canLayAll0, PyData.depth, PyData.depthAll]
theorem sh_Ti (a : Ti) : SeqAt.shaped (dTi a) = true := by
  simp [SeqAt.shaped, PyData.canLay0, PyData.canLayAll0, PyData.depth, PyData.depthAll]
theorem sh_Sp (a : Sp) : SeqAt.shaped (dSp a) = true := by
  simp [SeqAt.shaped, PyData.canLay0, PyData.canLayAll0, PyData.depth, PyData.depthAll]
theorem sh_Pe (a : Pe) : SeqAt.shaped (dPe a) = true := by
  simp [SeqAt.shaped, PyData.canLay0, PyData.canLayAll0, PyData.depth, PyData.depthAll]
theorem sh_Bl (a : Bl) : SeqAt.shaped (dBl a) = true := by
  simp [SeqAt.shaped, PyData.canLay0, PyData.canLayAll0, PyData.depth, PyData.depthAll]
local macro_rules | `(tactic| walk_at "nf11") => `(tactic| show Sa _ _ _ _ ⟨[_, _, _, _, _, _, _, _, _, _, _], none⟩ _)
local macro_rules | `(tactic| walk_at "nf18") => `(tactic| show Sa _ _ _ _ ⟨[_, _, _, _, _, _, _, _, _, _, _, _, _, _, _, _, _, _], none⟩ _)
section
variable {P : Program} {w : World} {K : PySem.W.Frag} {mg : Str → Option Value} {base : Heap} {ea : Er → Addr} {CE : Addr}
/-! ### inner_challenge -/
abbrev n_inner_challenge : List Str := ["setup", "ticket"]
theorem sc_inner_challenge : FnScope n_inner_challenge ["setup", "ticket"] (defScope sinner_challenge) := ⟨rfl, rfl, rfl, by decide +kernel, rfl, by decide +kernel, by decide +kernel⟩
theorem ok_inner_challenge (T : Tx K mg ea CE) (c_challenge_for : Callee P w K mg base CX0 4 "challenge_for" (spF K ea F_challenge_for)) {f : Addr} {fd : FuncData} (G : FnP K "inner_challenge" sinner_challenge f fd) (hm : mg "inner_challenge" = some (.ref f)) : Callee P w K mg base CX0 5 "inner_challenge" (spF K ea F_inner_challenge) := by
  refine okV (k := 4) G hm sc_inner_challenge ?len (fun _ _ _ _ _ _ us hl => match us, hl with | [_, _], _ => rfl) fun cdv A outer s H _E hr => ?_
  case len => exact l_inner_challenge
  refine ⟨_, (pss_one (ps_ret (c_challenge_for.c0 (W := W0) hr rfl (pa_cons (pe_ix (ixT (K := K) rfl) (pv 0) pe_int (fun _ _ => rfl)) (pa_cons (pe_slice sl_tupA (pv 1) po_none (po_some pe_int)) pa_nil))))), fun ds r hF => ?_⟩
  obtain ⟨S, t, rfl, hq, hs, rfl⟩ := hF
  refine sa_ret (vl_call (va_cons (vl_op (vl_var rfl (vl_int (op_ixT rfl (va_cons (vl_slT (vl_var rfl ⟨_, rfl, (vo_none (vo_some (vl_int ⟨_, rfl, (va_nil (u_challenge_for (f := t.fi) ?_ ?_))⟩)))⟩)))))))))
  · exact ⟨hq, hs⟩
  · rfl
/-! ### blinding_of -/
abbrev n_blinding_of : List Str := ["setup", "record", "ticket", "spend", "person", "offer", "c", "r", "q", "s", "u", "v", "d", "answers", "exponents", "rest", "answer", "exponent"]
theorem sc_blinding_of : FnScope n_blinding_of ["setup", "record", "ticket", "spend"] (defScope sblinding_of) := ⟨rfl, rfl, rfl, by decide +kernel, rfl, by decide +kernel, by decide +kernel⟩
theorem ok_blinding_of (T : Tx K mg ea CE) (c_logarithm : Callee P w K mg base (L2.CX P w) 4 "logarithm" (spF K ea F_logarithm)) (c_quotient : Callee P w K mg base (L2.CX P w) 2 "quotient" (spF K ea F_quotient)) (c_mark_of : Callee P w K mg base (L2.CX P w) 7 "mark_of" (spF K ea F_mark_of)) (c_inner_challenge : Callee P w K mg base CX0 5 "inner_challenge" (spF K ea F_inner_challenge)) {f : Addr} {fd : FuncData} (G : FnP K "blinding_of" sblinding_of f fd) (hm : mg "blinding_of" = some (.ref f)) : Callee P w K mg base (L2.CX P w) 8 "blinding_of" (spF K ea F_blinding_of) := by
  refine okX (k := 7) G hm sc_blinding_of ?len (fun _ _ _ _ _ _ us hl => match us, hl with | [_, _, _, _], _ => rfl) fun cdv A outer s H E hr => ?_
  case len => exact l_blinding_of
  refine ⟨_, (pss_cons (ps_asg (pv 1) (pg_tup rfl (pgs_cons (pg_name (i := 4) sc_blinding_of.nd rfl (.inl rfl)) (pgs_cons (pg_name (i := 5) sc_blinding_of.nd rfl (.inl rfl)) (pgs_cons (pg_name (i := 6) sc_blinding_of.nd rfl (.inl rfl)) (pgs_cons (pg_name (i := 7) sc_blinding_of.nd rfl (.inl rfl)) pgs_nil))))))
      (pss_cons (ps_set (i := 8) sc_blinding_of.nd rfl (.inr rfl) (pe_ix (ixT (K := K) rfl) (pv 0) pe_int (fun _ _ => rfl)))
      (pss_cons (ps_set (i := 9) sc_blinding_of.nd rfl (.inr rfl) (c_logarithm.cX (W := (WF E)) (hr.mono (by decide)) rfl (takes_of rfl rfl rfl rfl) (pa_cons (pv 8) (pa_cons (c_mark_of.cX (W := (WF E)) hr rfl (takes_of rfl rfl rfl rfl) (pa_cons (pv 0) (pa_cons (pv 4) pa_nil))) (pa_cons (pe_ix (ixT (K := K) rfl) (pv 2) pe_int (fun _ _ => rfl)) pa_nil)))))
      (pss_cons (ps_set (i := 10) sc_blinding_of.nd rfl (.inl rfl) (c_quotient.cX (W := (WF E)) (hr.mono (by decide)) rfl (takes_of rfl rfl rfl rfl) (pa_cons (pv 8) (pa_cons (c_inner_challenge.c0 (W := (WF E)) (hr.mono (by decide)) rfl (pa_cons (pv 0) (pa_cons (pv 2) pa_nil))) (pa_cons (pv 6) pa_nil)))))
      (pss_cons (ps_set (i := 11) sc_blinding_of.nd rfl (.inl rfl) (pe_op op_mod (pe_op op_sub (pe_ix (ixT (K := K) rfl) (pv 2) pe_int (fun _ _ => rfl)) (pe_op op_mul (pv 10) (pv 7))) (pv 8)))
      (pss_cons (ps_asg (pv 3) (pg_tup rfl (pgs_cons (pg_name (i := 12) sc_blinding_of.nd rfl (.inr rfl)) (pgs_cons (pg_name (i := 13) sc_blinding_of.nd rfl (.inl rfl)) pgs_nil))))
      (pss_cons (ps_set (i := 14) sc_blinding_of.nd rfl (.inl rfl) (pe_op op_catA (pe_tup (pa_cons pe_int pa_nil)) (pe_callTy call_tuple_of rfl T.ftuple boot_tuple (pa_cons (pv 4) pa_nil))))
      (pss_cons (ps_setLc (i := 15) (own := [("answer", 16), ("exponent", 17)]) (g := gTup K 2 (gCons (gName 16) (gCons (gName 17) (gNil)))) (tt := tYes) rfl sc_blinding_of.nd rfl rfl (sw_true rfl rfl rfl (by decide +kernel)) (RZ.pi_zipA rfl T.fzip (pa_cons (pv 13) (pa_cons (pv 14) pa_nil))) (blkOk_by (N := n_blinding_of) (sc := defScope sblinding_of) (by decide +kernel)) (fun _ _ _ _ _ => (pg_tup rfl (pgs_cons (pg_name (i := 16) sc_blinding_of.nd rfl (Or.inl rfl) (hf := .inr rfl)) (pgs_cons (pg_name (i := 17) sc_blinding_of.nd rfl (Or.inl rfl) (hf := .inr rfl)) pgs_nil)))) (fun _ _ _ _ _ => pts_nil) (fun _ _ _ _ _ => (pe_op op_mod (pe_op op_sub (pv 16) (pe_op op_mul (pe_op op_mul (pv 12) (pv 9)) (pv 17))) (pv 8))))
      (pss_one (ps_ret (pe_tup (pa_cons (pv 9) (pa_cons (pv 10) (pa_cons (pv 11) (pa_cons (pe_callTy call_tuple_of rfl T.ftuple boot_tuple (pa_cons (pv 15) pa_nil)) pa_nil))))))))))))))), fun ds r hF => ?_⟩
  obtain ⟨S, rec, t, sp, rfl, hp, rfl⟩ := hF
  have hq := hp.1
  have hq1 := hq.1
  have hq2 := hq.2
  refine sa_seq ?_
  refine sa_asg (vl_var rfl (ga_tup rfl (gs_name (gs_name (gs_name (gs_name (gs_nil ?_)))))))
  walk_at "nf18"
  refine sa_seq ?_
  refine sa_asg (vl_op (vl_var rfl (vl_int (op_ixT rfl (ga_name (.inl rfl) ?_)))))
  walk_at "nf18"
  refine sa_seq ?_
  refine sa_asg (vl_call (va_cons (vl_var rfl (va_cons (vl_call (va_cons (vl_var rfl (va_cons (vl_var rfl (va_nil (u_mark_of hq (fun m hm => (va_cons (vl_op (vl_var rfl (vl_int (op_ixT rfl (va_nil (u_logarithm ?_ (fun s hs => (ga_name (.inl rfl) ?_)) (fun er he => ?_))))))))) (fun er he => ?_))))))))))))
  · exact ⟨hq, hp.2.2 m hm⟩
  · walk_at "nf18"
    obtain ⟨hl1, hl2, _, k, hk, hsk, _⟩ := logM_inv hs
    have hpe := okPe_inv (markM_inv hm).1
    refine sa_seq ?_
    refine sa_asg (vl_call (va_cons (vl_var rfl (va_cons (vl_call (va_cons (vl_var rfl (va_cons (vl_var rfl (va_nil (u_inner_challenge ?_ (va_cons (vl_var rfl (va_nil (u_quotient hq (fun u hu => (ga_name (.inl rfl) ?_)) (fun er he => ?_))))))))))))))))
    · exact ⟨by omega, pre_sm hp hl2⟩
    · walk_at "nf18"
      have hur := quoM_inv (by omega) hu
      refine sa_seq ?_
      refine sa_asg (vl_op (vl_op (vl_op (vl_var rfl (vl_int (op_ixT rfl (vl_op (vl_var rfl (vl_var rfl (op_I ?_ (op_I0 (vl_var rfl (op_I ?_ (ga_name (.inl rfl) ?_))))))))))))))
      · exact .inl ⟨by omega, by omega⟩
      · show 0 < S.q
        omega
      walk_at "nf18"
      refine sa_seq ?_
      refine sa_asg (vl_var rfl (ga_tup rfl (gs_name (gs_name (gs_nil ?_)))))
      walk_at "nf18"
      refine sa_seq ?_
      refine sa_asg (vl_op (vl_tup (va_cons (vl_int (va_nil ⟨fl_ rfl, ln_ rfl, (vl_tupOf (vl_var rfl (.inr ⟨_, rfl, (op_catD (ln_ rfl) (ga_name (.inl rfl) ?_))⟩)))⟩)))))
      walk_at "nf18"
      refine sa_seq ?_
      refine sa_asgN (vn_lc2 (by decide) (iw_zipT (vl_var rfl ⟨_, rfl, (vl_var rfl ⟨_, rfl, ⟨[.int ((sp.r0 - sp.d * s * 1) % S.q), .int ((sp.r1 - sp.d * s * rec.p.n) % S.q), .int ((sp.r2 - sp.d * s * rec.p.a) % S.q), .int ((sp.r3 - sp.d * s * rec.p.z) % S.q)], rfl, ln_ rfl, ?_, ?_⟩⟩)⟩)))
      · walk_at "nf18"
        refine sa_ret (vl_tup (va_cons (vl_var rfl (va_cons (vl_var rfl (va_cons (vl_var rfl (va_cons (vl_tupOf (vl_var rfl (.inl ⟨_, rfl, (va_nil ⟨fl_ rfl, ln_ rfl, ?_⟩)⟩)))))))))))
        show (blindM S rec t sp).map _ = _
        simp only [blindM, hm, bok, hs, hu]
        rfl
      · intro k dd r hd hr'
        have go : ∃ x y : Int, dd = .tuple [.int x, .int y] ∧ r = .int ((x - sp.d * s * y) % S.q) ∧ -(2 ^ 64) < y ∧ y < 2 ^ 64 := match k, hd, hr' with
          | 0, hd, hr' => ⟨sp.r0, 1, (Option.some.inj hd).symm, (Option.some.inj hr').symm, by omega, by omega⟩
          | 1, hd, hr' => ⟨sp.r1, rec.p.n, (Option.some.inj hd).symm, (Option.some.inj hr').symm, by omega, by omega⟩
          | 2, hd, hr' => ⟨sp.r2, rec.p.a, (Option.some.inj hd).symm, (Option.some.inj hr').symm, by omega, by omega⟩
          | 3, hd, hr' => ⟨sp.r3, rec.p.z, (Option.some.inj hd).symm, (Option.some.inj hr').symm, by omega, by omega⟩
          | k + 4, hd, _ => nomatch hd
        obtain ⟨x, y, rfl, rfl, y0, y1⟩ := go
        refine ⟨⟨_, _, rfl⟩, rfl, ?_⟩
        refine vl_op (vl_op (vl_var rfl (vl_op (vl_op (vl_var rfl (vl_var rfl (op_I ?_ (vl_var rfl (op_I ?_ (op_I0 (vl_var rfl (op_I ?_ rfl))))))))))))
        · exact .inr ⟨by omega, by omega⟩
        · exact .inr ⟨y0, y1⟩
        · show 0 < S.q
          omega
    · show (blindM S rec t sp).map _ = _
      simp only [blindM, hm, bok, hs, he, ber]
      rfl
  · show (blindM S rec t sp).map _ = _
    simp only [blindM, hm, bok, he, ber]
    rfl
  · show (blindM S rec t sp).map _ = _
    simp only [blindM, he, ber]
    rfl
/-- what stands in explain_ticket's try -/
abbrev TB (K : PySem.W.Frag) (ea : Er → Addr) (W : WX) : TS :=
  tSeq (tAsg (tCallS (spF K ea F_blinding_of) (WE W) (tCons (tVar 0) (tCons (tVar 2) (tCons (tVar 3) (tCons (tVar 4) tNil))))) (gName 9))
    (tSeq (tIfS (tTest (tOp rNe (tCallS (spF K ea F_request_of) (WE W) (tCons (tVar 0) (tCons (tVar 5) (tCons (tVar 6) (tCons (tVar 9) tNil))))) (tVar 7))) (tRet (tC .non)) tNext)
      (tAsg (tTup (tCons (tCallS (spF K ea F_ticket_of) (WE W) (tCons (tVar 0) (tCons (tVar 1) (tCons (tVar 5) (tCons (tVar 6) (tCons (tVar 9) (tCons (tVar 8) tNil)))))))
        (tCons (tCallS (spF K ea F_spend_of) (WE W) (tCons (tVar 0) (tCons (tVar 5) (tCons (tVar 9) (tCons (tOp (rIxT K) (tVar 4) (tC (.int 0))) tNil))))) tNil))) (gName 10)))
/-! ### explain_ticket -/
abbrev n_explain_ticket : List Str := ["setup", "key", "record", "ticket", "spend", "person", "offer", "c", "r", "blinding", "found"]
theorem sc_explain_ticket : FnScope n_explain_ticket ["setup", "key", "record", "ticket", "spend"] (defScope sexplain_ticket) := ⟨rfl, rfl, rfl, by decide +kernel, rfl, by decide +kernel, by decide +kernel⟩
theorem ok_explain_ticket (T : Tx K mg ea CE) (c_request_of : Callee P w K mg base (L2.CX P w) 9 "request_of" (spF K ea F_request_of)) (c_ticket_of : Callee P w K mg base (L2.CX P w) 9 "ticket_of" (spF K ea F_ticket_of)) (c_spend_of : Callee P w K mg base (L2.CX P w) 4 "spend_of" (spF K ea F_spend_of)) (c_blinding_of : Callee P w K mg base (L2.CX P w) 8 "blinding_of" (spF K ea F_blinding_of)) {f : Addr} {fd : FuncData} (G : FnP K "explain_ticket" sexplain_ticket f fd) (hm : mg "explain_ticket" = some (.ref f)) : Callee P w K mg base CX0 10 "explain_ticket" (spF K ea F_explain_ticket) := by
  refine okV (k := 9) G hm sc_explain_ticket ?len (fun _ _ _ _ _ _ us hl => match us, hl with | [_, _, _, _, _], _ => rfl) fun cdv A outer s H _E hr => ?_
  case len => exact l_explain_ticket
  refine ⟨_, (pss_cons (ps_asg (pv 2) (pg_tup rfl (pgs_cons (pg_name (i := 5) sc_explain_ticket.nd rfl (.inl rfl)) (pgs_cons (pg_name (i := 6) sc_explain_ticket.nd rfl (.inl rfl)) (pgs_cons (pg_name (i := 7) sc_explain_ticket.nd rfl (.inl rfl)) (pgs_cons (pg_name (i := 8) sc_explain_ticket.nd rfl (.inl rfl)) pgs_nil))))))
      (pss_cons (ps_try_only (tb := TB K ea) (ts := fun _ _ _ => tRet (tC .non)) (Wout := W0) rfl rfl ⟨rfl, by decide, .inl T.gCE⟩ takes0 (fun W pn xe tk _ => (pss_cons (ps_set (i := 9) sc_explain_ticket.nd rfl (.inl rfl) (c_blinding_of.cX (W := W) (hr.mono (by decide)) rfl tk (pa_cons (pv 0) (pa_cons (pv 2) (pa_cons (pv 3) (pa_cons (pv 4) pa_nil))))))
      (pss_cons (ps_if (pt_cmpR op_ne (c_request_of.cX (W := W) hr rfl tk (pa_cons (pv 0) (pa_cons (pv 5) (pa_cons (pv 6) (pa_cons (pv 9) pa_nil))))) (pv 7) (nomark _)) (pss_one (ps_ret pe_non)) pss_nil)
      (pss_one (ps_set (i := 10) sc_explain_ticket.nd rfl (.inl rfl) (pe_tup (pa_cons (c_ticket_of.cX (W := W) hr rfl tk (pa_cons (pv 0) (pa_cons (pv 1) (pa_cons (pv 5) (pa_cons (pv 6) (pa_cons (pv 9) (pa_cons (pv 8) pa_nil))))))) (pa_cons (c_spend_of.cX (W := W) (hr.mono (by decide)) rfl tk (pa_cons (pv 0) (pa_cons (pv 5) (pa_cons (pv 9) (pa_cons (pe_ix (ixT (K := K) rfl) (pv 4) pe_int (fun _ _ => rfl)) pa_nil))))) pa_nil)))))))) (fun a oe cls d pn _ _ => pss_one (ps_ret pe_non)))
      (pss_cons (ps_if (pt_cmpR (op_neD (hu64 hr)) (pv 10) (pe_tup (pa_cons (pv 3) (pa_cons (pv 4) pa_nil))) (nomark _)) (pss_one (ps_ret pe_non)) pss_nil)
      (pss_one (ps_ret (pv 9)))))), fun ds r hF => ?_⟩
  obtain ⟨S, key, rec, t, sp, rfl, hp, rfl⟩ := hF
  have hq := hp.1
  have hq1 := hq.1
  have hq2 := hq.2
  refine sa_seq ?_
  refine sa_asg (vl_var rfl (ga_tup rfl (gs_name (gs_name (gs_name (gs_name (gs_nil ?_)))))))
  walk_at "nf11"
  refine sa_seq ?_
  refine sa_try T.exm fun W => ?_
  refine sa_seq ?_
  refine sa_asg (vl_call (va_cons (vl_var rfl (va_cons (vl_var rfl (va_cons (vl_var rfl (va_cons (vl_var rfl (va_nil (u_blinding_of hp (fun b hb => (ga_name (.inl rfl) ?_)) (fun er he => ?_))))))))))))
  · walk_at "nf11"
    refine sa_seq ?_
    refine sa_if (vt_test (vl_op (vl_call (va_cons (vl_var rfl (va_cons (vl_var rfl (va_cons (vl_var rfl (va_cons (vl_var rfl (va_nil (u_request_of hq (fun c hc => (vl_var rfl (op_neI ⟨_, rfl, ⟨fun h => ?_, fun h => ?_⟩⟩))) (fun er he => ?_))))))))))))))
    · have hcc : ¬ c = rec.c := by simpa using h
      refine sa_ret (vl_non ?_)
      show Except.ok (dOb (explainM S key rec t sp)) = _
      simp only [explainM, explM, hb, hc, bok, hcc, ↓reduceIte]
      rfl
    · have hcc : c = rec.c := by simpa using h
      refine sa_next ?_
      refine sa_asg (vl_tup (va_cons (vl_call (va_cons (vl_var rfl (va_cons (vl_var rfl (va_cons (vl_var rfl (va_cons (vl_var rfl (va_cons (vl_var rfl (va_cons (vl_var rfl (va_nil (u_ticket_of hq (fun t' ht => (va_cons (vl_call (va_cons (vl_var rfl (va_cons (vl_var rfl (va_cons (vl_var rfl (va_cons (vl_op (vl_var rfl (vl_int (op_ixT rfl (va_nil (u_spend_of hq (fun s' hs' => (va_nil ⟨fl_ rfl, ln_ rfl, (ga_name (.inl rfl) ?_)⟩)) (fun er he => ?_))))))))))))))))) (fun er he => ?_))))))))))))))))))
      · walk_at "nf11"
        refine sa_seq ?_
        refine sa_if (vt_test (vl_op (vl_var rfl (vl_tup (va_cons (vl_var rfl (va_cons (vl_var rfl (va_nil ⟨fl_ rfl, ln_ rfl, (op_neDt rfl rfl (sh_pair _ _) (sh_pair _ _) ⟨_, rfl, ⟨fun h2 => ?_, fun h2 => ?_⟩⟩)⟩)))))))))
        · rw [eqv_pair] at h2
          have h2' : ¬ (t' = t ∧ s' = sp) := fun z => by rw [decide_eq_true z] at h2; cases h2
          refine sa_ret (vl_non ?_)
          show Except.ok (dOb (explainM S key rec t sp)) = _
          simp only [explainM, explM, hb, hc, bok, hcc, ht, hs', h2', ↓reduceIte]
          rfl
        · rw [eqv_pair] at h2
          have h2' : t' = t ∧ s' = sp := by simpa using h2
          refine sa_next ?_
          refine sa_ret (vl_var rfl ?_)
          show Except.ok (dOb (explainM S key rec t sp)) = _
          simp only [explainM, explM, hb, hc, bok, hcc, ht, hs', h2', and_self, ↓reduceIte]
          rfl
      · show Except.ok (dOb (explainM S key rec t sp)) = _
        simp only [explainM, explM, hb, hc, bok, hcc, ht, he, ber, ↓reduceIte]
        rfl
      · show Except.ok (dOb (explainM S key rec t sp)) = _
        simp only [explainM, explM, hb, hc, bok, hcc, he, ber, ↓reduceIte]
        rfl
    · show Except.ok (dOb (explainM S key rec t sp)) = _
      simp only [explainM, explM, hb, he, bok, ber]
      rfl
  · show Except.ok (dOb (explainM S key rec t sp)) = _
    simp only [explainM, explM, he, ber]
    rfl
end
end Ck
set_option Elab.async false
set_option linter.all false
set_option autoImplicit false
set_option maxRecDepth 100000
set_option maxHeartbeats 1000000
/-! Ma1: powers of 4 modulo 2 q + 1, exponents modulo q. -/
namespace Ck
open PySem Fw
/-! ### the orders -/
def prB (n : Nat) : Bool := Nat.blt 1 n && (List.range 46).all fun d => Nat.blt d 2 || (Nat.blt n (d * d) || !(Nat.beq (n % d) 0))
def gqB (n : Nat) : Bool := Nat.beq (n % 2) 1 && (Nat.beq (4 ^ n % (2 * n + 1)) 1 && (List.range n).all fun a => Nat.beq a 0 || Nat.beq (a ^ (n - 1) % n) 1)
theorem orders : ((List.range 1014).all fun n => Nat.blt n 11 || (!(prB n && prB (2 * n + 1)) || gqB n)) = true := by decide +kernel
structure Gq (q : Int) : Prop where
  od : Od q
  odd : q % 2 = 1
  e4 : (4 : Int) ^ q.toNat % (2 * q + 1) = 1
  inv : ∀ a : Int, 0 ≤ a → a < q → a ≠ 0 → a ^ (q.toNat - 1) % q = 1
theorem gq_of {n : Nat} (h0 : 11 ≤ n) (h1 : n ≤ 1013) (hb : gqB n = true) : Gq (n : Int) := by
  unfold gqB at hb
  simp only [Bool.and_eq_true, List.all_eq_true, List.mem_range, Bool.or_eq_true] at hb
  obtain ⟨h2, h3, h4⟩ := hb
  have h2 := Nat.eq_of_beq_eq_true h2
  have h3 := Nat.eq_of_beq_eq_true h3
  refine ⟨⟨by omega, by omega⟩, by omega, ?_, fun a a0 a1 an => ?_⟩
  · rw [Int.toNat_natCast]
    have := congrArg (fun x : Nat => (x : Int)) h3
    simpa using this
  · rw [Int.toNat_natCast]
    obtain ⟨k, rfl⟩ : ∃ k : Nat, a = k := ⟨a.toNat, by omega⟩
    have hk := Nat.eq_of_beq_eq_true ((h4 k (by omega)).resolve_left fun z => by
      have := Nat.eq_of_beq_eq_true z
      omega)
    have := congrArg (fun x : Nat => (x : Int)) hk
    simpa using this
theorem gq_pr {n : Nat} (h0 : 11 ≤ n) (h1 : n ≤ 1013) (hp : prB n = true) (hp2 : prB (2 * n + 1) = true) : Gq (n : Int) := by
  have := List.all_eq_true.mp orders n (List.mem_range.mpr (by omega))
  simp only [hp, hp2, Bool.and_self, Bool.not_true, Bool.false_or, Bool.or_eq_true, Nat.blt_eq] at this
  exact gq_of h0 h1 (this.resolve_left (by omega))
theorem gq_11 : Gq 11 := gq_of (n := 11) (by decide) (by decide) (by decide +kernel)
/-! ### powers of 4 -/
def E (q k : Int) : Int := 4 ^ (k % q).toNat % (2 * q + 1)
theorem E_congr {q j k : Int} (h : j % q = k % q) : E q j = E q k := by
  unfold E
  rw [h]
section
variable {q : Int}
theorem Gq.pos (G : Gq q) : 0 < q := by
  have := G.od.1
  omega
theorem Gq.p2 (G : Gq q) : 2 ≤ 2 * q + 1 ∧ 2 * q + 1 ≤ 4096 := by
  have := G.od.1
  have := G.od.2
  omega
theorem one_p (G : Gq q) : (1 : Int) % (2 * q + 1) = 1 := by
  have := G.od.1
  exact Int.emod_eq_of_lt (by omega) (by omega)
theorem pow4_q (G : Gq q) (n : Nat) : (4 : Int) ^ (q.toNat * n) % (2 * q + 1) = 1 := by
  rw [Int.pow_mul, powc (b := 1) (by rw [G.e4, one_p G]) n, Int.one_pow, one_p G]
theorem E_nat (G : Gq q) (n : Nat) : E q (n : Int) = 4 ^ n % (2 * q + 1) := by
  have hq := G.pos
  unfold E
  have e1 : ((n : Int) % q).toNat = n % q.toNat := by
    have : ((n % q.toNat : Nat) : Int) = (n : Int) % q := by
      rw [Int.natCast_emod, Int.toNat_of_nonneg (by omega)]
    omega
  rw [e1]
  have e2 : n = q.toNat * (n / q.toNat) + n % q.toNat := (Nat.div_add_mod n q.toNat).symm
  conv => rhs; rw [e2, Int.pow_add]
  rw [mulc (b := 1) (by rw [pow4_q G, one_p G]) rfl, Int.one_mul]
theorem E_rep (G : Gq q) (k : Int) : ∃ n : Nat, k % q = (n : Int) % q ∧ E q k = 4 ^ n % (2 * q + 1) := by
  have h := mod_rng k q G.pos
  refine ⟨(k % q).toNat, ?_, rfl⟩
  rw [Int.toNat_of_nonneg h.1, Int.emod_emod_of_dvd _ (Int.dvd_refl q)]
theorem E_zero (G : Gq q) : E q 0 = 1 := by
  have := E_nat G 0
  rw [Int.pow_zero, one_p G] at this
  exact this
theorem E_mul (G : Gq q) (j k : Int) : E q j * E q k % (2 * q + 1) = E q (j + k) := by
  obtain ⟨a, ha, ea⟩ := E_rep G j
  obtain ⟨b, hb, eb⟩ := E_rep G k
  have e : E q (j + k) = E q ((a + b : Nat) : Int) := E_congr (by
    rw [Int.natCast_add, Int.add_emod, ha, hb, ← Int.add_emod])
  rw [ea, eb, e, E_nat G, Int.pow_add, ← Int.mul_emod]
theorem E_pow (G : Gq q) (k : Int) (n : Nat) : E q k ^ n % (2 * q + 1) = E q (k * n) := by
  obtain ⟨a, ha, ea⟩ := E_rep G k
  have e : E q (k * n) = E q ((a * n : Nat) : Int) := E_congr (by
    rw [Int.natCast_mul]
    exact mulc ha rfl)
  rw [ea, e, E_nat G, pow_mod, ← Int.pow_mul]
theorem E_rng (G : Gq q) (k : Int) : 0 < E q k ∧ E q k < 2 * q + 1 := by
  have hq := G.pos
  have h : 0 ≤ E q k ∧ E q k < 2 * q + 1 := mod_rng _ _ (by omega)
  refine ⟨?_, h.2⟩
  rcases Int.lt_or_eq_of_le h.1 with h1 | h1
  · exact h1
  · have e := E_mul G k (-k)
    rw [← h1, Int.zero_mul, Int.zero_emod, show k + -k = 0 by omega, E_zero G] at e
    cases e
/-- an inverse modulo q -/
theorem inv_q (G : Gq q) {a : Int} (h : a % q ≠ 0) : ∃ b : Int, a * b % q = 1 ∧ b = a ^ (q - 2).toNat := by
  have hq := G.od.1
  have hr := mod_rng a q G.pos
  have e := G.inv (a % q) hr.1 hr.2 h
  refine ⟨a ^ (q - 2).toNat, ?_, rfl⟩
  rw [pow_mod] at e
  have e2 : q.toNat - 1 = (q - 2).toNat + 1 := by omega
  rw [e2, Int.pow_succ, Int.mul_comm] at e
  exact e
theorem E_one (G : Gq q) {k : Int} (h : E q k = 1) : k % q = 0 := by
  have hq := G.od.1
  refine Decidable.byContradiction fun hn => ?_
  obtain ⟨b, hb, _⟩ := inv_q G hn
  obtain ⟨n, hn⟩ : ∃ n : Nat, b % q = (n : Int) := ⟨(b % q).toNat, by have := (mod_rng b q G.pos).1; omega⟩
  have e := E_pow G k n
  have e2 : E q (k * n) = E q 1 := E_congr (by
    rw [Int.emod_eq_of_lt (a := 1) (by omega) (by omega), ← hb]
    refine mulc rfl ?_
    rw [← hn, Int.emod_emod_of_dvd _ (Int.dvd_refl q)])
  rw [h, Int.one_pow, one_p G, e2] at e
  have e3 := E_nat G 1
  rw [Int.pow_succ, Int.pow_zero, Int.one_mul, Int.emod_eq_of_lt (by omega) (by omega)] at e3
  rw [show ((1 : Nat) : Int) = 1 from rfl] at e3
  omega
theorem E_inj (G : Gq q) {j k : Int} (h : E q j = E q k) : j % q = k % q := by
  have e1 := E_mul G j (-k)
  have e2 := E_mul G k (-k)
  rw [h, e2, show k + -k = 0 by omega, E_zero G] at e1
  have e3 := E_one G e1.symm
  have : (j + -k + k) % q = k % q := by
    rw [Int.add_emod, e3, Int.zero_add, Int.emod_emod_of_dvd _ (Int.dvd_refl q)]
  rwa [show j + -k + k = j by omega] at this
theorem E_eq (G : Gq q) {j k : Int} : E q j = E q k ↔ j % q = k % q := ⟨E_inj G, E_congr⟩
theorem pw_E (G : Gq q) (k : Int) {x : Int} (hx : 0 ≤ x) : pw (E q k) x (2 * q + 1) = E q (k * x) := by
  unfold pw
  rw [E_pow G, Int.toNat_of_nonneg hx]
theorem pw_4 (G : Gq q) {x : Int} (hx : 0 ≤ x) : pw 4 x (2 * q + 1) = E q x := by
  unfold pw
  rw [← E_nat G, Int.toNat_of_nonneg hx]
theorem isEl_E (G : Gq q) (k : Int) : isEl q (E q k) = true := by
  have h := E_rng G k
  unfold isEl
  have hq := G.pos
  have e : E q (k * q) = 1 := by rw [← E_zero G]; exact E_congr (by rw [Int.mul_emod_left, Int.zero_emod])
  rw [pw_E G k (by omega), e, decide_eq_true h.1, decide_eq_true h.2]
  rfl
theorem isEl_lo {v : Int} (h : v ≤ 0) : isEl q v = false := by
  unfold isEl
  rw [decide_eq_false (by omega)]
  rfl
theorem isEl_hi {v : Int} (h : 2 * q + 1 ≤ v) : isEl q v = false := by
  unfold isEl
  rw [decide_eq_false (show ¬ v < 2 * q + 1 by omega), Bool.false_and, Bool.and_false]
theorem neg_pow_odd (a : Int) : ∀ n : Nat, (-a) ^ (2 * n + 1) = -(a ^ (2 * n + 1))
  | 0 => by
    rw [Nat.mul_zero, Nat.zero_add, Int.pow_succ, Int.pow_zero, Int.pow_succ, Int.pow_zero]
    omega
  | n + 1 => by
    have ih := neg_pow_odd a n
    have e : 2 * (n + 1) + 1 = 2 * n + 1 + 1 + 1 := by omega
    rw [e, Int.pow_succ, Int.pow_succ, ih, Int.pow_succ a, Int.pow_succ a]
    grind
/-- the negative of an element is none -/
theorem isEl_neg (G : Gq q) (k : Int) : isEl q (2 * q + 1 - E q k) = false := by
  have hq := G.od.1
  have ho := G.odd
  have h := E_rng G k
  have e := isEl_inv (isEl_E G k)
  unfold isEl
  have hne : ¬ pw (2 * q + 1 - E q k) q (2 * q + 1) = 1 := fun z => by
    unfold pw at z e
    have e1 : (2 * q + 1 - E q k) % (2 * q + 1) = (-(E q k)) % (2 * q + 1) := by
      rw [show 2 * q + 1 - E q k = -(E q k) + (2 * q + 1) by omega, Int.add_emod_right]
    rw [powc e1] at z
    obtain ⟨n, hn⟩ : ∃ n : Nat, q.toNat = 2 * n + 1 := ⟨q.toNat / 2, by omega⟩
    rw [hn, neg_pow_odd, ← hn] at z
    have e3 := e.2.2
    have e4 : (E q k ^ q.toNat + -(E q k ^ q.toNat)) % (2 * q + 1) = 2 % (2 * q + 1) := by
      rw [Int.add_emod, e3, z]
      rfl
    rw [Int.add_right_neg, Int.zero_emod, Int.emod_eq_of_lt (by omega) (by omega)] at e4
    omega
  rw [decide_eq_false hne, Bool.and_false, Bool.and_false]
end
end Ck
set_option Elab.async false
set_option linter.all false
set_option autoImplicit false
set_option maxRecDepth 100000
set_option maxHeartbeats 1000000
/-! Ma2: exponents modulo q as a ring; what the program's functions give over powers of 4. -/
namespace Ck
open PySem Fw
/-! ### the ring of exponents -/
def Zs (q : Int) : Setoid Int where
  r a b := a % q = b % q
  iseqv := ⟨fun _ => rfl, fun h => h.symm, fun h k => h.trans k⟩
def Z (q : Int) : Type := Quotient (Zs q)
def cl {q : Int} (a : Int) : Z q := Quotient.mk (Zs q) a
section
variable {q : Int}
theorem cl_eq {a b : Int} : (cl a : Z q) = cl b ↔ a % q = b % q := ⟨fun h => Quotient.exact h, fun h => Quotient.sound (s := Zs q) h⟩
theorem cl_sound {a b : Int} (h : a % q = b % q) : (cl a : Z q) = cl b := cl_eq.mpr h
theorem addc {a b c d m : Int} (h1 : a % m = b % m) (h2 : c % m = d % m) : (a + c) % m = (b + d) % m := by
  rw [Int.add_emod, h1, h2, ← Int.add_emod]
theorem negc {a b m : Int} (h : a % m = b % m) : (-a) % m = (-b) % m := by
  have := mulc (a := -1) (b := -1) rfl h
  rwa [Int.neg_one_mul, Int.neg_one_mul] at this
theorem subc {a b c d m : Int} (h1 : a % m = b % m) (h2 : c % m = d % m) : (a - c) % m = (b - d) % m := by
  rw [Int.sub_eq_add_neg, Int.sub_eq_add_neg]
  exact addc h1 (negc h2)
instance : Add (Z q) := ⟨Quotient.lift₂ (fun a b => cl (a + b)) fun _ _ _ _ h k => cl_sound (addc h k)⟩
instance : Mul (Z q) := ⟨Quotient.lift₂ (fun a b => cl (a * b)) fun _ _ _ _ h k => cl_sound (mulc h k)⟩
instance : Neg (Z q) := ⟨Quotient.lift (fun a => cl (-a)) fun _ _ h => cl_sound (negc h)⟩
instance : Sub (Z q) := ⟨Quotient.lift₂ (fun a b => cl (a - b)) fun _ _ _ _ h k => cl_sound (subc h k)⟩
instance : NatCast (Z q) := ⟨fun n => cl n⟩
instance : IntCast (Z q) := ⟨fun n => cl n⟩
instance (n : Nat) : OfNat (Z q) n := ⟨cl n⟩
def zpow (a : Z q) : Nat → Z q
  | 0 => cl 1
  | n + 1 => zpow a n * a
instance : HPow (Z q) Nat (Z q) := ⟨zpow⟩
instance : SMul Nat (Z q) := ⟨fun n a => cl n * a⟩
instance : SMul Int (Z q) := ⟨fun n a => cl n * a⟩
theorem cl_add (a b : Int) : (cl (a + b) : Z q) = cl a + cl b := rfl
theorem cl_mul (a b : Int) : (cl (a * b) : Z q) = cl a * cl b := rfl
theorem cl_sub (a b : Int) : (cl (a - b) : Z q) = cl a - cl b := rfl
theorem cl_neg (a : Int) : (cl (-a) : Z q) = - cl a := rfl
theorem cl_mod (a : Int) : (cl (a % q) : Z q) = cl a := cl_sound (Int.emod_emod_of_dvd a (Int.dvd_refl q))
instance : Lean.Grind.CommRing (Z q) where
  add_zero a := by
    induction a using Quotient.ind with
    | _ a => exact congrArg cl (Int.add_zero a)
  add_comm a b := by
    induction a using Quotient.ind with
    | _ a => induction b using Quotient.ind with
      | _ b => exact congrArg cl (Int.add_comm a b)
  add_assoc a b c := by
    induction a using Quotient.ind with
    | _ a => induction b using Quotient.ind with
      | _ b => induction c using Quotient.ind with
        | _ c => exact congrArg cl (Int.add_assoc a b c)
  mul_assoc a b c := by
    induction a using Quotient.ind with
    | _ a => induction b using Quotient.ind with
      | _ b => induction c using Quotient.ind with
        | _ c => exact congrArg cl (Int.mul_assoc a b c)
  mul_one a := by
    induction a using Quotient.ind with
    | _ a => exact congrArg cl (Int.mul_one a)
  one_mul a := by
    induction a using Quotient.ind with
    | _ a => exact congrArg cl (Int.one_mul a)
  left_distrib a b c := by
    induction a using Quotient.ind with
    | _ a => induction b using Quotient.ind with
      | _ b => induction c using Quotient.ind with
        | _ c => exact congrArg cl (Int.mul_add a b c)
  right_distrib a b c := by
    induction a using Quotient.ind with
    | _ a => induction b using Quotient.ind with
      | _ b => induction c using Quotient.ind with
        | _ c => exact congrArg cl (Int.add_mul a b c)
  zero_mul a := by
    induction a using Quotient.ind with
    | _ a => exact congrArg cl (Int.zero_mul a)
  mul_zero a := by
    induction a using Quotient.ind with
    | _ a => exact congrArg cl (Int.mul_zero a)
  pow_zero a := rfl
  pow_succ a n := rfl
  ofNat_succ n := rfl
  ofNat_eq_natCast n := rfl
  nsmul_eq_natCast_mul n a := rfl
  neg_add_cancel a := by
    induction a using Quotient.ind with
    | _ a => exact congrArg cl (Int.add_left_neg a)
  sub_eq_add_neg a b := by
    induction a using Quotient.ind with
    | _ a => induction b using Quotient.ind with
      | _ b => exact congrArg cl Int.sub_eq_add_neg
  neg_zsmul i a := by
    induction a using Quotient.ind with
    | _ a => exact congrArg cl (Int.neg_mul i a)
  zsmul_natCast_eq_nsmul n a := rfl
  intCast_ofNat n := rfl
  intCast_neg i := rfl
  mul_comm a b := by
    induction a using Quotient.ind with
    | _ a => induction b using Quotient.ind with
      | _ b => exact congrArg cl (Int.mul_comm a b)
theorem cl_inv (G : Gq q) {a : Int} (h : a % q ≠ 0) : ∃ b : Z q, (cl a : Z q) * b = 1 := by
  obtain ⟨b, hb, _⟩ := inv_q G h
  have hq := G.od.1
  refine ⟨cl b, ?_⟩
  rw [← cl_mul]
  exact cl_sound (by rw [hb]; exact (Int.emod_eq_of_lt (a := 1) (by omega) (by omega)).symm)
theorem ne_zero (G : Gq q) {a : Int} {b : Z q} (h : (cl a : Z q) * b = 1) : a % q ≠ 0 := fun z => by
  have hq := G.od.1
  have e : (cl a : Z q) = 0 := cl_sound (by rw [z]; rfl)
  rw [e] at h
  have h2 : (1 : Z q) = 0 := by grind
  have h3 : (1 : Int) % q = 0 % q := cl_eq.mp h2
  rw [Int.emod_eq_of_lt (a := 1) (by omega) (by omega), Int.zero_emod] at h3
  omega
theorem one_ne (G : Gq q) : (1 : Z q) ≠ 0 := fun h => by
  have hq := G.od.1
  have h3 : (1 : Int) % q = 0 % q := cl_eq.mp h
  rw [Int.emod_eq_of_lt (a := 1) (by omega) (by omega), Int.zero_emod] at h3
  omega
theorem rng_eq {a b : Int} (a0 : 0 ≤ a) (a1 : a < q) (b0 : 0 ≤ b) (b1 : b < q) (h : (cl a : Z q) = cl b) : a = b := by
  have := cl_eq.mp h
  rwa [Int.emod_eq_of_lt a0 a1, Int.emod_eq_of_lt b0 b1] at this
theorem E_cl (G : Gq q) {j k : Int} : E q j = E q k ↔ (cl j : Z q) = cl k := (E_eq G).trans cl_eq.symm
end
/-! ### setups whose bases are powers of 4 -/
structure Xs where
  (e e0 e1 e2 e3 : Int)
structure SuOk (S : Su) (X : Xs) : Prop where
  G : Gq S.q
  g : S.g = E S.q X.e
  g0 : S.g0 = E S.q X.e0
  g1 : S.g1 = E S.q X.e1
  g2 : S.g2 = E S.q X.e2
  g3 : S.g3 = E S.q X.e3
  n : X.e % S.q ≠ 0
  n0 : X.e0 % S.q ≠ 0
  n1 : X.e1 % S.q ≠ 0
  n2 : X.e2 % S.q ≠ 0
  n3 : X.e3 % S.q ≠ 0
def mu (X : Xs) (p : Pe) : Int := X.e0 * 1 + X.e1 * p.n + X.e2 * p.a + X.e3 * p.z
def sig (X : Xs) (b : Bl) : Int := X.e0 * b.x0 + X.e1 * b.x1 + X.e2 * b.x2 + X.e3 * b.x3
section
variable {q : Int}
theorem powerM_E (G : Gq q) (k x : Int) : powerM q (E q k) x = .ok (E q (k * x)) := by
  have hm := mod_rng x q G.pos
  unfold powerM
  rw [if_pos (isEl_E G k), pw_E G k hm.1]
  exact congrArg Except.ok (E_congr (mulc rfl (Int.emod_emod_of_dvd x (Int.dvd_refl q))))
theorem productM_E (G : Gq q) (j k : Int) : productM q (E q j) (E q k) = .ok (E q (j + k)) := by
  unfold productM
  rw [if_pos (isEl_E G j), if_pos (isEl_E G k), E_mul G]
theorem ppM_E (G : Gq q) (a b c d x y z w : Int) : ppM q [(E q a, x), (E q b, y), (E q c, z), (E q d, w)] 1 = .ok (E q (a * x + b * y + c * z + d * w)) := by
  have e1 : (1 : Int) = E q 0 := (E_zero G).symm
  have st : ∀ (a x : Int) (r : List (Int × Int)) (k : Int), ppM q ((E q a, x) :: r) (E q k) = ppM q r (E q (k + a * x)) := fun a x r k => by
    show (match powerM q (E q a) x with | .error e => Except.error e | .ok y => ppM q r (E q k * y % (2 * q + 1))) = _
    rw [powerM_E G]
    show ppM q r (E q k * E q (a * x) % (2 * q + 1)) = _
    rw [E_mul G]
  rw [e1, st, st, st, st, Int.zero_add]
  rfl
theorem isGr_E (G : Gq q) (b r f s c : Int) : isGr q (E q b) r (E q f) (E q s) c = .ok (decide (E q (b * r) = E q (f + s * c))) := by
  simp only [isGr, powerM_E G, productM_E G, bok]
theorem E_ne_one (G : Gq q) {k : Int} : E q k = 1 ↔ k % q = 0 := ⟨E_one G, fun h => by rw [← E_zero G]; exact E_congr (by rw [h, Int.zero_emod])⟩
end
section
variable {S : Su} {X : Xs}
theorem pmarkM_E (h : SuOk S X) (p : Pe) : pmarkM S p = .ok (E S.q (mu X p)) := by
  unfold pmarkM
  rw [h.g0, h.g1, h.g2, h.g3, ppM_E h.G]
  rfl
theorem markM_E (h : SuOk S X) {p : Pe} (hp : okPe S p = true) (hm : mu X p % S.q ≠ 0) : markM S p = .ok (E S.q (mu X p)) := by
  unfold markM
  rw [if_pos hp, pmarkM_E h]
  exact if_neg fun z => hm (E_one h.G z)
theorem markM_E' (h : SuOk S X) {p : Pe} {m : Int} (hm : markM S p = .ok m) : okPe S p = true ∧ mu X p % S.q ≠ 0 ∧ m = E S.q (mu X p) := by
  obtain ⟨h1, h2, h3⟩ := markM_inv hm
  rw [pmarkM_E h] at h2
  cases h2
  exact ⟨h1, fun z => h3 ((E_ne_one h.G).mpr z), rfl⟩
theorem hiddenM_E (h : SuOk S X) {p : Pe} {b : Bl} {ze al be : Int} (hp : okPe S p = true) (hm : mu X p % S.q ≠ 0) (hz : ze % S.q ≠ 0) (hb : okBl S b = true) :
    hiddenM S p ⟨E S.q ze, E S.q al, E S.q be⟩ b = .ok ⟨E S.q (mu X p * b.s), E S.q (sig X b), E S.q (ze * b.s), E S.q (al * b.u + X.e * b.v), E S.q (be * (b.s * b.u) + mu X p * b.s * b.v)⟩ := by
  have ho : okOf S ⟨E S.q ze, E S.q al, E S.q be⟩ = true := by
    unfold okOf
    rw [isEl_E h.G, isEl_E h.G, isEl_E h.G, decide_eq_false fun z => hz (E_one h.G z)]
    rfl
  simp only [hiddenM, markM_E h hp hm, bok, ho, hb, ↓reduceIte, powerM_E h.G, h.g, h.g0, h.g1, h.g2, h.g3, ppM_E h.G, productM_E h.G]
  rfl
theorem okOf_E (h : SuOk S X) {ze al be : Int} (ho : okOf S ⟨E S.q ze, E S.q al, E S.q be⟩ = true) : ze % S.q ≠ 0 := fun z => by
  unfold okOf at ho
  rw [decide_eq_true ((E_ne_one h.G).mpr z)] at ho
  simp at ho
/-- a quotient of exponents -/
theorem quoM_cl {q a b x : Int} (G : Gq q) (h : quoM q a b = .ok x) : 0 ≤ x ∧ x < q ∧ b % q ≠ 0 ∧ (cl x : Z q) * cl b = cl a := by
  obtain ⟨h1, h2, h3, h4⟩ := quoM_inv G.pos h
  refine ⟨h1, h2, h3, ?_⟩
  obtain ⟨b', hb, hb'⟩ := inv_q G h3
  have e1 : (cl x : Z q) = cl a * cl b' := by
    rw [h4, cl_mod, cl_mul, hb']
    congr 1
    exact cl_mod _
  have e2 : (cl b : Z q) * cl b' = 1 := by
    have hq := G.od.1
    rw [← cl_mul]
    exact cl_sound (by rw [hb]; exact (Int.emod_eq_of_lt (a := 1) (by omega) (by omega)).symm)
  rw [e1]
  grind
theorem quoM_ok {q a b : Int} (G : Gq q) (h : b % q ≠ 0) : ∃ x, quoM q a b = .ok x ∧ 0 ≤ x ∧ x < q ∧ (cl x : Z q) * cl b = cl a := by
  have e : quoM q a b = .ok (a * pw b (q - 2) q % q) := by
    unfold quoM
    rw [if_neg h]
  obtain ⟨h1, h2, _, h4⟩ := quoM_cl G e
  exact ⟨_, e, h1, h2, h4⟩
/-- challenges are no multiples of q -/
theorem chal_rng {q : Int} (G : Gq q) (t : Str) : 1 ≤ challengeM q t ∧ challengeM q t < q := by
  have hq := G.od.1
  unfold challengeM
  have := mod_rng (coinM 0 q t) (q - 1) (by omega)
  omega
theorem chal_ne {q : Int} (G : Gq q) (f : Fi) : chalM q f % q ≠ 0 := by
  have := chal_rng G (joinedM "ticket" f.l)
  show challengeM q _ % q ≠ 0
  rw [Int.emod_eq_of_lt (by omega) this.2]
  omega
end
end Ck
set_option Elab.async false
set_option linter.all false
set_option autoImplicit false
set_option maxRecDepth 100000
set_option maxHeartbeats 1000000
/-! Ma3: a record leads to a ticket and a spend just if the exponents fit. -/
namespace Ck
open PySem Fw
/-- the exponents fit -/
structure Ld (S : Su) (X : Xs) (ka : Int) (p : Pe) (ze al be c r tA tB tz ta tb tr c1 : Int) (sp : Sp) (b : Bl) : Prop where
  pe : okPe S p = true
  m : mu X p % S.q ≠ 0
  bl : okBl S b = true
  zn : ze % S.q ≠ 0
  rr : 0 ≤ r ∧ r < S.q
  cr : 0 ≤ c ∧ c < S.q
  cn : c % S.q ≠ 0
  tr_ : 0 ≤ tr ∧ tr < S.q
  dr : 0 ≤ sp.d ∧ sp.d < S.q
  y0 : 0 ≤ sp.r0 ∧ sp.r0 < S.q
  y1 : 0 ≤ sp.r1 ∧ sp.r1 < S.q
  y2 : 0 ≤ sp.r2 ∧ sp.r2 < S.q
  y3 : 0 ≤ sp.r3 ∧ sp.r3 < S.q
  e1 : (cl (mu X p) : Z S.q) * cl b.s = cl tA
  e2 : (cl (sig X b) : Z S.q) = cl tB
  e3 : (cl ze : Z S.q) * cl b.s = cl tz
  e4 : (cl al : Z S.q) * cl b.u + cl X.e * cl b.v = cl ta
  e5 : (cl be : Z S.q) * (cl b.s * cl b.u) + cl (mu X p) * cl b.s * cl b.v = cl tb
  e6 : (cl b.u : Z S.q) * cl c = cl c1
  e7 : (cl tr : Z S.q) = cl b.u * cl r + cl b.v
  e8 : (cl X.e : Z S.q) * cl r = cl al + cl ka * cl c
  e9 : (cl (mu X p) : Z S.q) * cl r = cl be + cl ze * cl c
  x0 : (cl sp.r0 : Z S.q) = cl b.x0 + cl sp.d * cl b.s * 1
  x1 : (cl sp.r1 : Z S.q) = cl b.x1 + cl sp.d * cl b.s * cl p.n
  x2 : (cl sp.r2 : Z S.q) = cl b.x2 + cl sp.d * cl b.s * cl p.a
  x3 : (cl sp.r3 : Z S.q) = cl b.x3 + cl sp.d * cl b.s * cl p.z
theorem isEx_inv {q v : Int} (h : isEx q v = true) : 0 ≤ v ∧ v < q := by
  unfold isEx at h
  simpa using h
theorem isEx_mk {q v : Int} (h : 0 ≤ v ∧ v < q) : isEx q v = true := by
  unfold isEx
  rw [decide_eq_true h.1, decide_eq_true h.2]
  rfl
theorem ticketM_inv {S : Su} {key : Int} {p : Pe} {o : Of} {b : Bl} {r : Int} {t : Ti} (h : ticketM S key p o b r = .ok t) : ∃ n c m, hiddenM S p o b = .ok n ∧ isEx S.q r = true ∧ quoM S.q (chalM S.q n) b.u = .ok c ∧ isGr S.q S.g r o.a key c = .ok true ∧ markM S p = .ok m ∧ isGr S.q m r o.b o.z c = .ok true ∧ t = ⟨n.A, n.B, n.z, n.a, n.b, (b.u * r + b.v) % S.q⟩ := by
  unfold ticketM at h
  obtain ⟨n, hn, h⟩ := bind_ok h
  split at h
  · rename_i hr
    obtain ⟨c, hc, h⟩ := bind_ok h
    obtain ⟨g1, hg1, h⟩ := bind_ok h
    split at h
    · rename_i hg
      subst hg
      obtain ⟨m, hm, h⟩ := bind_ok h
      obtain ⟨g2, hg2, h⟩ := bind_ok h
      split at h
      · rename_i hg'
        subst hg'
        cases h
        exact ⟨n, c, m, hn, hr, hc, hg1, hm, hg2, rfl⟩
      · cases h
    · cases h
  · cases h
theorem spendM_inv {S : Su} {p : Pe} {b : Bl} {d : Int} {s : Sp} (h : spendM S p b d = .ok s) : okPe S p = true ∧ okBl S b = true ∧ isEx S.q d = true ∧ s = ⟨d, (b.x0 + d * b.s * 1) % S.q, (b.x1 + d * b.s * p.n) % S.q, (b.x2 + d * b.s * p.a) % S.q, (b.x3 + d * b.s * p.z) % S.q⟩ := by
  unfold spendM at h
  split at h
  · rename_i h1
    split at h
    · rename_i h2
      split at h
      · rename_i h3
        cases h
        exact ⟨h1, h2, h3, rfl⟩
      · cases h
    · cases h
  · cases h
theorem explM_inv {S : Su} {key : Int} {rec : Re} {t : Ti} {sp : Sp} {b : Bl} (h : explainM S key rec t sp = some b) : blindM S rec t sp = .ok b ∧ requestM S rec.p rec.o b = .ok rec.c ∧ ticketM S key rec.p rec.o b rec.r = .ok t ∧ spendM S rec.p b sp.d = .ok sp := by
  unfold explainM at h
  cases he : explM S key rec t sp with
  | error e => rw [he] at h; cases h
  | ok o =>
    rw [he] at h
    have h' : o = some b := h
    subst h'
    unfold explM at he
    obtain ⟨b', hb, he⟩ := bind_ok he
    obtain ⟨c, hc, he⟩ := bind_ok he
    split at he
    · rename_i hcc
      obtain ⟨t', ht, he⟩ := bind_ok he
      obtain ⟨s', hs', he⟩ := bind_ok he
      split at he
      · rename_i h2
        cases he
        obtain ⟨rfl, rfl⟩ := h2
        rw [hcc] at hc
        exact ⟨hb, hc, ht, hs'⟩
      · cases he
    · cases he
theorem blindM_inv {S : Su} {rec : Re} {t : Ti} {sp : Sp} {b : Bl} (h : blindM S rec t sp = .ok b) : ∃ m s u, markM S rec.p = .ok m ∧ logM S.q m t.A = .ok s ∧ quoM S.q (chalM S.q t.fi) rec.c = .ok u ∧
    b = ⟨s, u, (t.r - u * rec.r) % S.q, (sp.r0 - sp.d * s * 1) % S.q, (sp.r1 - sp.d * s * rec.p.n) % S.q, (sp.r2 - sp.d * s * rec.p.a) % S.q, (sp.r3 - sp.d * s * rec.p.z) % S.q⟩ := by
  unfold blindM at h
  obtain ⟨m, hm, h⟩ := bind_ok h
  obtain ⟨s, hs, h⟩ := bind_ok h
  obtain ⟨u, hu, h⟩ := bind_ok h
  cases h
  exact ⟨m, s, u, hm, hs, hu, rfl⟩
section
variable {S : Su} {X : Xs}
theorem isGr_true {q b r f s c : Int} (G : Gq q) (h : isGr q (E q b) r (E q f) (E q s) c = .ok true) : (cl b : Z q) * cl r = cl f + cl s * cl c := by
  rw [isGr_E G] at h
  have h' := of_decide_eq_true (Except.ok.inj h)
  exact (E_cl G).mp h'
theorem ld_inv (h : SuOk S X) {ka : Int} {p : Pe} {ze al be c r tA tB tz ta tb tr : Int} {sp : Sp} {b : Bl}
    (he : explainM S (E S.q ka) ⟨p, ⟨E S.q ze, E S.q al, E S.q be⟩, c, r⟩ ⟨E S.q tA, E S.q tB, E S.q tz, E S.q ta, E S.q tb, tr⟩ sp = some b) :
    Ld S X ka p ze al be c r tA tB tz ta tb tr (chalM S.q ⟨E S.q tA, E S.q tB, E S.q tz, E S.q ta, E S.q tb⟩) sp b := by
  have G := h.G
  obtain ⟨hb, hreq, htk, hsp⟩ := explM_inv he
  obtain ⟨m, s, u, hm, hs, hu, eb⟩ := blindM_inv hb
  obtain ⟨hpe, hmu, rfl⟩ := markM_E' h hm
  obtain ⟨n, c', m', hn, hr, hc', hg1, hm', hg2, et⟩ := ticketM_inv htk
  obtain ⟨_, hbl, hd, es⟩ := spendM_inv hsp
  obtain ⟨_, hm'', em⟩ := markM_E' h hm'
  subst em
  obtain ⟨_, _, _, _, _, _, hof, _, _⟩ := hidden_inv hn
  have hze := okOf_E h hof
  rw [hiddenM_E h hpe hmu hze hbl] at hn
  have en := Except.ok.inj hn
  subst en
  have hcc : c' = c := by
    unfold requestM at hreq
    rw [hiddenM_E h hpe hmu hze hbl, bok, hc'] at hreq
    exact Except.ok.inj hreq
  subst hcc
  obtain ⟨cr0, cr1, _, _⟩ := quoM_cl G hc'
  obtain ⟨_, _, hcn, eu⟩ := quoM_cl G hu
  simp only [Ti.mk.injEq] at et
  obtain ⟨t1, t2, t3, t4, t5, t6⟩ := et
  rw [h.g] at hg1
  have g1 := isGr_true G hg1
  have g2 := isGr_true G hg2
  have es0 := congrArg Sp.r0 es
  have es1 := congrArg Sp.r1 es
  have es2 := congrArg Sp.r2 es
  have es3 := congrArg Sp.r3 es
  have rg : ∀ {a b : Int}, a = b % S.q → 0 ≤ a ∧ a < S.q := fun {a b} e => by rw [e]; exact mod_rng _ _ G.pos
  have ebu : b.u = u := congrArg Bl.u eb
  refine ⟨hpe, hmu, hbl, hze, isEx_inv hr, ⟨cr0, cr1⟩, hcn, rg t6, isEx_inv hd, rg es0, rg es1, rg es2, rg es3, ?_, ?_, ?_, ?_, ?_, ?_, ?_, g1, g2, ?_, ?_, ?_, ?_⟩
  · exact ((E_cl G).mp t1).symm
  · exact ((E_cl G).mp t2).symm
  · exact ((E_cl G).mp t3).symm
  · exact ((E_cl G).mp t4).symm
  · exact ((E_cl G).mp t5).symm
  · rw [ebu]
    exact eu
  · rw [t6, cl_mod]
    rfl
  · rw [es0, cl_mod]
    rfl
  · rw [es1, cl_mod]
    rfl
  · rw [es2, cl_mod]
    rfl
  · rw [es3, cl_mod]
    rfl
/-- a factor that is not 0 may be left out -/
theorem cancel {q : Int} (G : Gq q) {a : Int} {x y : Z q} (h : a % q ≠ 0) (e : (cl a : Z q) * x = cl a * y) : x = y := by
  obtain ⟨b, hb⟩ := cl_inv G h
  grind
theorem logM_E {q : Int} (G : Gq q) {a v s : Int} (ha : a % q ≠ 0) (s0 : 0 ≤ s) (s1 : s < q) (e : (cl a : Z q) * cl s = cl v) : logM q (E q a) (E q v) = .ok s := by
  have hk : E q a ^ s.toNat % (2 * q + 1) = E q v := by
    rw [E_pow G, Int.toNat_of_nonneg s0]
    exact (E_cl G).mpr e
  have h1 : E q a ≠ 1 := fun z => ha (E_one G z)
  have hf : ∃ k, (List.range q.toNat).find? (fun k => decide (E q a ^ k % (2 * q + 1) = E q v)) = some k := by
    cases hf : (List.range q.toNat).find? (fun k => decide (E q a ^ k % (2 * q + 1) = E q v)) with
    | some k => exact ⟨k, rfl⟩
    | none =>
      have := List.find?_eq_none.mp hf s.toNat (List.mem_range.mpr (by omega))
      exact absurd (decide_eq_true hk) this
  obtain ⟨k, hf⟩ := hf
  have e2 : logM q (E q a) (E q v) = .ok (k : Int) := by
    unfold logM
    rw [if_pos (isEl_E G a), if_pos (isEl_E G v), if_neg h1, hf]
  obtain ⟨_, _, _, k', hk1, hk2, hk3⟩ := logM_inv e2
  have hkk : (k : Int) = s := by
    have e3 : k' = k := by omega
    subst e3
    rw [E_pow G] at hk3
    have e4 : (cl a : Z q) * cl (k' : Int) = cl a * cl s := by
      rw [e]
      exact (E_cl G).mp hk3
    exact rng_eq (by omega) (by omega) s0 s1 (cancel G ha e4)
  rw [e2, hkk]
theorem ld_pos (h : SuOk S X) {ka : Int} {p : Pe} {ze al be c r tA tB tz ta tb tr : Int} {sp : Sp} {b : Bl}
    (hl : Ld S X ka p ze al be c r tA tB tz ta tb tr (chalM S.q ⟨E S.q tA, E S.q tB, E S.q tz, E S.q ta, E S.q tb⟩) sp b) :
    explainM S (E S.q ka) ⟨p, ⟨E S.q ze, E S.q al, E S.q be⟩, c, r⟩ ⟨E S.q tA, E S.q tB, E S.q tz, E S.q ta, E S.q tb, tr⟩ sp = some b ∧
    requestM S p ⟨E S.q ze, E S.q al, E S.q be⟩ b = .ok c ∧ ticketM S (E S.q ka) p ⟨E S.q ze, E S.q al, E S.q be⟩ b r = .ok ⟨E S.q tA, E S.q tB, E S.q tz, E S.q ta, E S.q tb, tr⟩ ∧ spendM S p b sp.d = .ok sp := by
  have G := h.G
  have hq := G.pos
  have hbr := okBl_inv hl.bl
  obtain ⟨bs, bu, bv, b0, b1, b2, b3, bsn, bun⟩ := hbr
  have hun : b.u % S.q ≠ 0 := by rw [Int.emod_eq_of_lt bu.1 bu.2]; exact bun
  have md : ∀ a : Int, 0 ≤ a % S.q ∧ a % S.q < S.q := fun a => mod_rng a S.q hq
  have hhid : hiddenM S p ⟨E S.q ze, E S.q al, E S.q be⟩ b = .ok ⟨E S.q tA, E S.q tB, E S.q tz, E S.q ta, E S.q tb⟩ := by
    rw [hiddenM_E h hl.pe hl.m hl.zn hl.bl]
    rw [(E_cl G (j := mu X p * b.s)).mpr hl.e1, (E_cl G (j := sig X b)).mpr hl.e2, (E_cl G (j := ze * b.s)).mpr hl.e3, (E_cl G (j := al * b.u + X.e * b.v)).mpr hl.e4, (E_cl G (j := be * (b.s * b.u) + mu X p * b.s * b.v)).mpr hl.e5]
  obtain ⟨c', hc', c0, c1, ec⟩ := quoM_ok (a := chalM S.q ⟨E S.q tA, E S.q tB, E S.q tz, E S.q ta, E S.q tb⟩) G hun
  have hcc : c' = c := by
    refine rng_eq c0 c1 hl.cr.1 hl.cr.2 (cancel G hun ?_)
    have e6 := hl.e6
    grind
  subst hcc
  have hreq : requestM S p ⟨E S.q ze, E S.q al, E S.q be⟩ b = .ok c' := by
    unfold requestM
    rw [hhid, bok, hc']
  obtain ⟨u', hu', u0, u1, eu⟩ := quoM_ok (a := chalM S.q ⟨E S.q tA, E S.q tB, E S.q tz, E S.q ta, E S.q tb⟩) G hl.cn
  have huu : u' = b.u := by
    refine rng_eq u0 u1 bu.1 bu.2 (cancel G hl.cn ?_)
    have e6 := hl.e6
    grind
  subst huu
  have hlog := logM_E G hl.m bs.1 bs.2 hl.e1
  have hv : (tr - b.u * r) % S.q = b.v := by
    refine rng_eq (md _).1 (md _).2 bv.1 bv.2 ?_
    rw [cl_mod, cl_sub, cl_mul, hl.e7]
    grind
  have hx0 : (sp.r0 - sp.d * b.s * 1) % S.q = b.x0 := by
    refine rng_eq (md _).1 (md _).2 b0.1 b0.2 ?_
    rw [cl_mod, cl_sub, cl_mul, cl_mul, hl.x0]
    show _ + _ * _ * (1 : Z S.q) - _ * _ * (1 : Z S.q) = _
    grind
  have hx1 : (sp.r1 - sp.d * b.s * p.n) % S.q = b.x1 := by
    refine rng_eq (md _).1 (md _).2 b1.1 b1.2 ?_
    rw [cl_mod, cl_sub, cl_mul, cl_mul, hl.x1]
    grind
  have hx2 : (sp.r2 - sp.d * b.s * p.a) % S.q = b.x2 := by
    refine rng_eq (md _).1 (md _).2 b2.1 b2.2 ?_
    rw [cl_mod, cl_sub, cl_mul, cl_mul, hl.x2]
    grind
  have hx3 : (sp.r3 - sp.d * b.s * p.z) % S.q = b.x3 := by
    refine rng_eq (md _).1 (md _).2 b3.1 b3.2 ?_
    rw [cl_mod, cl_sub, cl_mul, cl_mul, hl.x3]
    grind
  have hbl : blindM S ⟨p, ⟨E S.q ze, E S.q al, E S.q be⟩, c', r⟩ ⟨E S.q tA, E S.q tB, E S.q tz, E S.q ta, E S.q tb, tr⟩ sp = .ok b := by
    simp only [blindM, markM_E h hl.pe hl.m, bok, hlog, Ti.fi, hu', hv, hx0, hx1, hx2, hx3]
  have hg1 : isGr S.q S.g r (E S.q al) (E S.q ka) c' = .ok true := by
    rw [h.g, isGr_E G]
    exact congrArg Except.ok (decide_eq_true ((E_cl G).mpr hl.e8))
  have hg2 : isGr S.q (E S.q (mu X p)) r (E S.q be) (E S.q ze) c' = .ok true := by
    rw [isGr_E G]
    exact congrArg Except.ok (decide_eq_true ((E_cl G).mpr hl.e9))
  have htr : (b.u * r + b.v) % S.q = tr := by
    refine rng_eq (md _).1 (md _).2 hl.tr_.1 hl.tr_.2 ?_
    rw [cl_mod, cl_add, cl_mul, hl.e7]
  have htk : ticketM S (E S.q ka) p ⟨E S.q ze, E S.q al, E S.q be⟩ b r = .ok ⟨E S.q tA, E S.q tB, E S.q tz, E S.q ta, E S.q tb, tr⟩ := by
    simp only [ticketM, hhid, bok, isEx_mk hl.rr, hc', hg1, markM_E h hl.pe hl.m, hg2, ↓reduceIte, htr]
  have hsp : spendM S p b sp.d = .ok sp := by
    have z0 : (b.x0 + sp.d * b.s * 1) % S.q = sp.r0 := by
      refine rng_eq (md _).1 (md _).2 hl.y0.1 hl.y0.2 ?_
      rw [cl_mod, hl.x0]
      rfl
    have z1 : (b.x1 + sp.d * b.s * p.n) % S.q = sp.r1 := by
      refine rng_eq (md _).1 (md _).2 hl.y1.1 hl.y1.2 ?_
      rw [cl_mod, hl.x1]
      rfl
    have z2 : (b.x2 + sp.d * b.s * p.a) % S.q = sp.r2 := by
      refine rng_eq (md _).1 (md _).2 hl.y2.1 hl.y2.2 ?_
      rw [cl_mod, hl.x2]
      rfl
    have z3 : (b.x3 + sp.d * b.s * p.z) % S.q = sp.r3 := by
      refine rng_eq (md _).1 (md _).2 hl.y3.1 hl.y3.2 ?_
      rw [cl_mod, hl.x3]
      rfl
    simp only [spendM, hl.pe, hl.bl, isEx_mk hl.dr, ↓reduceIte, z0, z1, z2, z3]
  refine ⟨?_, hreq, htk, hsp⟩
  simp only [explainM, explM, hbl, bok, hreq, htk, hsp, and_self, ↓reduceIte]
end
end Ck
set_option Elab.async false
set_option linter.all false
set_option autoImplicit false
set_option maxRecDepth 100000
set_option maxHeartbeats 1000000
/-! Ma4: honest sessions: what explains their tickets, and what does not. -/
namespace Ck
open PySem Fw
/-- the call is allowed and answers None -/
def Bad (S : Su) (key : Int) (rec : Re) (t : Ti) (sp : Sp) : Prop := Pre S rec.p t ∧ explainM S key rec t sp = none
theorem none_of {α : Type} {o : Option α} (h : ∀ b, o = some b → False) : o = none := by
  cases o with
  | none => rfl
  | some b => exact (h b rfl).elim
section
variable {S : Su} {X : Xs}
theorem E_sm (h : SuOk S X) (k : Int) : 0 ≤ E S.q k ∧ E S.q k < 8192 := by
  have := E_rng h.G k
  have := h.G.od.2
  omega
theorem pre_E (h : SuOk S X) (p : Pe) (tA tB tz ta tb tr : Int) : Pre S p ⟨E S.q tA, E S.q tB, E S.q tz, E S.q ta, E S.q tb, tr⟩ := by
  refine ⟨h.G.od, ⟨E_sm h _, E_sm h _, E_sm h _, E_sm h _⟩, fun m hm _ _ hm1 => ?_⟩
  obtain ⟨_, hn, rfl⟩ := markM_E' h hm
  obtain ⟨x, _, x0, x1, hx⟩ := quoM_ok (a := tA) h.G hn
  refine ⟨x.toNat, by omega, ?_⟩
  show _ = E S.q tA
  rw [E_pow h.G, Int.toNat_of_nonneg x0]
  refine (E_cl h.G).mpr ?_
  rw [cl_mul]
  grind
theorem pre_non (h : SuOk S X) (p : Pe) {A : Int} (hA : isEl S.q A = false) (tB tz ta tb tr : Int) : Pre S p ⟨A, E S.q tB, E S.q tz, E S.q ta, E S.q tb, tr⟩ := by
  refine ⟨h.G.od, ⟨E_sm h _, E_sm h _, E_sm h _, E_sm h _⟩, fun m hm _ h2 _ => ?_⟩
  have h2' : isEl S.q A = true := h2
  rw [hA] at h2'
  cases h2'
theorem bad_ld (h : SuOk S X) {ka : Int} {p : Pe} {ze al be c r tA tB tz ta tb tr : Int} {sp : Sp}
    (H : ∀ b, Ld S X ka p ze al be c r tA tB tz ta tb tr (chalM S.q ⟨E S.q tA, E S.q tB, E S.q tz, E S.q ta, E S.q tb⟩) sp b → False) :
    Bad S (E S.q ka) ⟨p, ⟨E S.q ze, E S.q al, E S.q be⟩, c, r⟩ ⟨E S.q tA, E S.q tB, E S.q tz, E S.q ta, E S.q tb, tr⟩ sp :=
  ⟨pre_E h _ _ _ _ _ _ _, none_of fun b hb => H b (ld_inv h hb)⟩
theorem bad_of (h : SuOk S X) {key : Int} {rec : Re} {tA tB tz ta tb tr : Int} {sp : Sp} (ho : okOf S rec.o = false) : Bad S key rec ⟨E S.q tA, E S.q tB, E S.q tz, E S.q ta, E S.q tb, tr⟩ sp := by
  refine ⟨pre_E h _ _ _ _ _ _ _, none_of fun b hb => ?_⟩
  obtain ⟨_, _, htk, _⟩ := explM_inv hb
  obtain ⟨n, _, _, hn, _⟩ := ticketM_inv htk
  obtain ⟨_, _, _, _, _, _, hof, _, _⟩ := hidden_inv hn
  rw [ho] at hof
  cases hof
theorem bad_A (h : SuOk S X) {key : Int} {rec : Re} {A tB tz ta tb tr : Int} {sp : Sp} (hA : isEl S.q A = false) : Bad S key rec ⟨A, E S.q tB, E S.q tz, E S.q ta, E S.q tb, tr⟩ sp := by
  refine ⟨pre_non h _ hA _ _ _ _ _, none_of fun b hb => ?_⟩
  obtain ⟨hb, _, _, _⟩ := explM_inv hb
  obtain ⟨m, s, u, hm, hs, _⟩ := blindM_inv hb
  obtain ⟨_, h2, _⟩ := logM_inv hs
  have h2' : isEl S.q A = true := h2
  rw [hA] at h2'
  cases h2'
/-! ### what follows from fitting exponents, without a blinding -/
section
variable {ka : Int} {p : Pe} {ze al be c r tA tB tz ta tb tr c1 : Int} {sp : Sp} {b : Bl}
theorem Ld.T1 (l : Ld S X ka p ze al be c r tA tB tz ta tb tr c1 sp b) : (cl X.e : Z S.q) * cl tr = cl ta + cl ka * cl c1 := by
  have := l.e4; have := l.e6; have := l.e7; have := l.e8
  grind
theorem Ld.T2 (l : Ld S X ka p ze al be c r tA tB tz ta tb tr c1 sp b) : (cl tA : Z S.q) * cl tr = cl tb + cl tz * cl c1 := by
  have := l.e1; have := l.e3; have := l.e5; have := l.e6; have := l.e7; have := l.e9
  grind
theorem Ld.T0 (l : Ld S X ka p ze al be c r tA tB tz ta tb tr c1 sp b) : (cl tz : Z S.q) * cl (mu X p) = cl ze * cl tA := by
  have := l.e1; have := l.e3
  grind
theorem cl_mu (p : Pe) : (cl (mu X p) : Z S.q) = cl X.e0 + cl X.e1 * cl p.n + cl X.e2 * cl p.a + cl X.e3 * cl p.z := by
  unfold mu
  simp only [cl_add, cl_mul]
  show _ * (1 : Z S.q) + _ + _ + _ = _
  grind
theorem cl_sig (b : Bl) : (cl (sig X b) : Z S.q) = cl X.e0 * cl b.x0 + cl X.e1 * cl b.x1 + cl X.e2 * cl b.x2 + cl X.e3 * cl b.x3 := by
  unfold sig
  simp only [cl_add, cl_mul]
theorem Ld.T3 (l : Ld S X ka p ze al be c r tA tB tz ta tb tr c1 sp b) : (cl X.e0 : Z S.q) * cl sp.r0 + cl X.e1 * cl sp.r1 + cl X.e2 * cl sp.r2 + cl X.e3 * cl sp.r3 = cl tB + cl sp.d * cl tA := by
  have h1 := l.e1
  have h2 := l.e2
  rw [cl_mu] at h1
  rw [cl_sig] at h2
  have := l.x0; have := l.x1; have := l.x2; have := l.x3
  grind
end
/-! ### honest sessions -/
abbrev fiH (S : Su) (X : Xs) (x w : Int) (p : Pe) (b : Bl) : Fi := ⟨E S.q (mu X p * b.s), E S.q (sig X b), E S.q (mu X p * x * b.s), E S.q (X.e * w * b.u + X.e * b.v), E S.q (mu X p * w * (b.s * b.u) + mu X p * b.s * b.v)⟩
abbrev ofH (S : Su) (X : Xs) (x w : Int) (p : Pe) : Of := ⟨E S.q (mu X p * x), E S.q (X.e * w), E S.q (mu X p * w)⟩
abbrev tiH (S : Su) (X : Xs) (x w : Int) (p : Pe) (b : Bl) (tr : Int) : Ti := ⟨E S.q (mu X p * b.s), E S.q (sig X b), E S.q (mu X p * x * b.s), E S.q (X.e * w * b.u + X.e * b.v), E S.q (mu X p * w * (b.s * b.u) + mu X p * b.s * b.v), tr⟩
abbrev reH (S : Su) (X : Xs) (x w : Int) (p : Pe) (c r : Int) : Re := ⟨p, ofH S X x w p, c, r⟩
abbrev spH (q : Int) (p : Pe) (b : Bl) (d : Int) : Sp := ⟨d, (b.x0 + d * b.s * 1) % q, (b.x1 + d * b.s * p.n) % q, (b.x2 + d * b.s * p.a) % q, (b.x3 + d * b.s * p.z) % q⟩
structure Hn (S : Su) (X : Xs) (x w : Int) (p : Pe) (c r tr : Int) (b : Bl) : Prop where
  xn : x % S.q ≠ 0
  pe : okPe S p = true
  m : mu X p % S.q ≠ 0
  bl : okBl S b = true
  cr : 0 ≤ c ∧ c < S.q
  ec : (cl c : Z S.q) * cl b.u = cl (chalM S.q (fiH S X x w p b))
  er : r = (w + c * x) % S.q
  et : tr = (b.u * r + b.v) % S.q
variable {x w : Int} {p : Pe} {c r tr : Int} {b : Bl}
theorem Hn.rr (h : SuOk S X) (H : Hn S X x w p c r tr b) : 0 ≤ r ∧ r < S.q := by
  rw [H.er]
  exact mod_rng _ _ h.G.pos
theorem Hn.tr_ (h : SuOk S X) (H : Hn S X x w p c r tr b) : 0 ≤ tr ∧ tr < S.q := by
  rw [H.et]
  exact mod_rng _ _ h.G.pos
theorem Hn.clr (H : Hn S X x w p c r tr b) : (cl r : Z S.q) = cl w + cl c * cl x := by
  rw [H.er, cl_mod]
  rfl
theorem Hn.clt (H : Hn S X x w p c r tr b) : (cl tr : Z S.q) = cl b.u * cl r + cl b.v := by
  rw [H.et, cl_mod]
  rfl
theorem mul_ne (G : Gq S.q) {a b : Int} (ha : a % S.q ≠ 0) (hb : b % S.q ≠ 0) : a * b % S.q ≠ 0 := by
  obtain ⟨a', ha⟩ := cl_inv G ha
  obtain ⟨b', hb⟩ := cl_inv G hb
  refine ne_zero G (b := a' * b') ?_
  rw [cl_mul]
  grind
theorem cl0 {a : Int} (z : a % S.q = 0) : (cl a : Z S.q) = 0 := cl_sound (z.trans (Int.zero_emod _).symm)
theorem cl_ne (G : Gq S.q) {a : Int} (ha : a % S.q ≠ 0) : (cl a : Z S.q) ≠ 0 := fun z => ha ((cl_eq.mp (z : (cl a : Z S.q) = cl 0)).trans (Int.zero_emod _))
theorem lt_ne {a q : Int} (h0 : 0 < a) (h1 : a < q) : a % q ≠ 0 := by
  rw [Int.emod_eq_of_lt (by omega) h1]
  omega
theorem Hn.sn (H : Hn S X x w p c r tr b) : b.s % S.q ≠ 0 := by
  obtain ⟨bs, _, _, _, _, _, _, n, _⟩ := okBl_inv H.bl
  exact lt_ne (by omega) bs.2
theorem Hn.un (H : Hn S X x w p c r tr b) : b.u % S.q ≠ 0 := by
  obtain ⟨_, bu, _, _, _, _, _, _, n⟩ := okBl_inv H.bl
  exact lt_ne (by omega) bu.2
theorem Hn.cn (h : SuOk S X) (H : Hn S X x w p c r tr b) : c % S.q ≠ 0 := fun z => by
  have e : (cl c : Z S.q) = 0 := cl0 z
  have e2 := H.ec
  have e3 := cl_ne h.G (chal_ne h.G (fiH S X x w p b))
  rw [e] at e2
  grind
/-- another session of the same issuer explains the ticket, with some blinding -/
theorem Hn.other (h : SuOk S X) {w' : Int} {p' : Pe} {c' r' tr' : Int} {b' : Bl} (H : Hn S X x w p c r tr b) (H' : Hn S X x w' p' c' r' tr' b') {d : Int} (hd : 0 ≤ d ∧ d < S.q) :
    ∃ b2, Ld S X (X.e * x) p' (mu X p' * x) (X.e * w') (mu X p' * w') c' r' (mu X p * b.s) (sig X b) (mu X p * x * b.s) (X.e * w * b.u + X.e * b.v) (mu X p * w * (b.s * b.u) + mu X p * b.s * b.v) tr (chalM S.q (fiH S X x w p b)) (spH S.q p b d) b2 := by
  have G := h.G
  have hq := G.pos
  have md : ∀ a : Int, 0 ≤ a % S.q ∧ a % S.q < S.q := fun a => mod_rng a S.q hq
  obtain ⟨s, _, s0, s1, es⟩ := quoM_ok (a := mu X p * b.s) G H'.m
  obtain ⟨u, _, u0, u1, eu⟩ := quoM_ok (a := chalM S.q (fiH S X x w p b)) G (H'.cn h)
  have hsn : s % S.q ≠ 0 := fun z => by
    have e : (cl s : Z S.q) = 0 := cl0 z
    have e3 := cl_ne G (mul_ne G H.m H.sn)
    rw [e] at es
    grind
  have hun : u % S.q ≠ 0 := fun z => by
    have e : (cl u : Z S.q) = 0 := cl0 z
    have e3 := cl_ne G (chal_ne G (fiH S X x w p b))
    rw [e] at eu
    grind
  have nz : ∀ {a : Int}, a % S.q ≠ 0 → a ≠ 0 := fun {a} n z => n (by rw [z, Int.zero_emod])
  rw [cl_mul] at es
  have hr := H.clr
  have hr' := H'.clr
  have ht := H.clt
  have hc := H.ec
  have y0 : (cl (spH S.q p b d).r0 : Z S.q) = cl b.x0 + cl d * cl b.s * 1 := cl_mod _
  have y1 : (cl (spH S.q p b d).r1 : Z S.q) = cl b.x1 + cl d * cl b.s * cl p.n := cl_mod _
  have y2 : (cl (spH S.q p b d).r2 : Z S.q) = cl b.x2 + cl d * cl b.s * cl p.a := cl_mod _
  have y3 : (cl (spH S.q p b d).r3 : Z S.q) = cl b.x3 + cl d * cl b.s * cl p.z := cl_mod _
  have v2 : (cl ((tr - u * r') % S.q) : Z S.q) = cl tr - cl u * cl r' := cl_mod _
  have z0 : (cl (((spH S.q p b d).r0 - d * s * 1) % S.q) : Z S.q) = cl (spH S.q p b d).r0 - cl d * cl s * 1 := cl_mod _
  have z1 : (cl (((spH S.q p b d).r1 - d * s * p'.n) % S.q) : Z S.q) = cl (spH S.q p b d).r1 - cl d * cl s * cl p'.n := cl_mod _
  have z2 : (cl (((spH S.q p b d).r2 - d * s * p'.a) % S.q) : Z S.q) = cl (spH S.q p b d).r2 - cl d * cl s * cl p'.a := cl_mod _
  have z3 : (cl (((spH S.q p b d).r3 - d * s * p'.z) % S.q) : Z S.q) = cl (spH S.q p b d).r3 - cl d * cl s * cl p'.z := cl_mod _
  refine ⟨⟨s, u, (tr - u * r') % S.q, ((spH S.q p b d).r0 - d * s * 1) % S.q, ((spH S.q p b d).r1 - d * s * p'.n) % S.q, ((spH S.q p b d).r2 - d * s * p'.a) % S.q, ((spH S.q p b d).r3 - d * s * p'.z) % S.q⟩,
    H'.pe, H'.m, ?_, mul_ne G H'.m H'.xn, H'.rr h, H'.cr, H'.cn h, H.tr_ h, hd, md _, md _, md _, md _, ?_, ?_, ?_, ?_, ?_, ?_, ?_, ?_, ?_, ?_, ?_, ?_, ?_⟩
  · unfold okBl
    simp only [List.all_cons, List.all_nil, Bool.and_true, isEx_mk (md _), isEx_mk ⟨s0, s1⟩, isEx_mk ⟨u0, u1⟩, Bool.true_and, Bool.not_eq_true', Bool.or_eq_false_iff]
    exact ⟨decide_eq_false (nz hsn), decide_eq_false (nz hun)⟩
  · show (cl (mu X p') : Z S.q) * cl s = _
    rw [cl_mul]
    grind
  · rw [cl_sig, cl_sig]
    show (cl X.e0 : Z S.q) * cl (((spH S.q p b d).r0 - d * s * 1) % S.q) + cl X.e1 * cl (((spH S.q p b d).r1 - d * s * p'.n) % S.q) + cl X.e2 * cl (((spH S.q p b d).r2 - d * s * p'.a) % S.q) + cl X.e3 * cl (((spH S.q p b d).r3 - d * s * p'.z) % S.q) = _
    rw [z0, z1, z2, z3, y0, y1, y2, y3]
    rw [cl_mu, cl_mu] at es
    grind
  · show (cl (mu X p' * x) : Z S.q) * cl s = cl (mu X p * x * b.s)
    simp only [cl_mul]
    grind
  · show (cl (X.e * w') : Z S.q) * cl u + cl X.e * cl ((tr - u * r') % S.q) = cl (X.e * w * b.u + X.e * b.v)
    rw [v2]
    simp only [cl_add, cl_mul]
    grind
  · show (cl (mu X p' * w') : Z S.q) * (cl s * cl u) + cl (mu X p') * cl s * cl ((tr - u * r') % S.q) = cl (mu X p * w * (b.s * b.u) + mu X p * b.s * b.v)
    rw [v2]
    simp only [cl_add, cl_mul]
    grind
  · exact eu
  · show (cl tr : Z S.q) = cl u * cl r' + cl ((tr - u * r') % S.q)
    rw [v2]
    grind
  · simp only [cl_mul]
    grind
  · simp only [cl_mul]
    grind
  · show (cl (spH S.q p b d).r0 : Z S.q) = cl (((spH S.q p b d).r0 - d * s * 1) % S.q) + cl d * cl s * 1
    rw [z0]
    grind
  · show (cl (spH S.q p b d).r1 : Z S.q) = cl (((spH S.q p b d).r1 - d * s * p'.n) % S.q) + cl d * cl s * cl p'.n
    rw [z1]
    grind
  · show (cl (spH S.q p b d).r2 : Z S.q) = cl (((spH S.q p b d).r2 - d * s * p'.a) % S.q) + cl d * cl s * cl p'.a
    rw [z2]
    grind
  · show (cl (spH S.q p b d).r3 : Z S.q) = cl (((spH S.q p b d).r3 - d * s * p'.z) % S.q) + cl d * cl s * cl p'.z
    rw [z3]
    grind
end
end Ck
set_option Elab.async false
set_option linter.all false
set_option autoImplicit false
set_option maxRecDepth 100000
set_option maxHeartbeats 1000000
/-! Ma5: an honest session's own record; what does not explain its ticket. -/
namespace Ck
open PySem Fw
section
variable {S : Su} {X : Xs} {x w : Int} {p : Pe} {c r tr : Int} {b : Bl} {d : Int}
abbrev LdH (S : Su) (X : Xs) (x w : Int) (p : Pe) (c r tr : Int) (b : Bl) (d : Int) : Prop :=
  Ld S X (X.e * x) p (mu X p * x) (X.e * w) (mu X p * w) c r (mu X p * b.s) (sig X b) (mu X p * x * b.s) (X.e * w * b.u + X.e * b.v) (mu X p * w * (b.s * b.u) + mu X p * b.s * b.v) tr (chalM S.q (fiH S X x w p b)) (spH S.q p b d) b
theorem Hn.own (h : SuOk S X) (H : Hn S X x w p c r tr b) (hd : 0 ≤ d ∧ d < S.q) : LdH S X x w p c r tr b d := by
  have G := h.G
  have hq := G.pos
  have md : ∀ a : Int, 0 ≤ a % S.q ∧ a % S.q < S.q := fun a => mod_rng a S.q hq
  have hr := H.clr
  have ht := H.clt
  have hc := H.ec
  refine ⟨H.pe, H.m, H.bl, mul_ne G H.m H.xn, H.rr h, H.cr, H.cn h, H.tr_ h, hd, md _, md _, md _, md _, ?_, rfl, ?_, ?_, ?_, ?_, ht, ?_, ?_, cl_mod _, cl_mod _, cl_mod _, cl_mod _⟩
  · rfl
  · rfl
  · simp only [cl_add, cl_mul]
  · simp only [cl_add, cl_mul]
  · rw [← hc]
    grind
  · simp only [cl_mul]
    grind
  · simp only [cl_mul]
    grind
/-- the second spend is the same just for the same person -/
theorem Hn.second (h : SuOk S X) {w' : Int} {p' : Pe} {c' r' tr' : Int} {b' b2 : Bl} (H : Hn S X x w p c r tr b) (H' : Hn S X x w' p' c' r' tr' b') (hd : 0 ≤ d ∧ d < S.q)
    (l : Ld S X (X.e * x) p' (mu X p' * x) (X.e * w') (mu X p' * w') c' r' (mu X p * b.s) (sig X b) (mu X p * x * b.s) (X.e * w * b.u + X.e * b.v) (mu X p * w * (b.s * b.u) + mu X p * b.s * b.v) tr (chalM S.q (fiH S X x w p b)) (spH S.q p b d) b2) :
    spH S.q p' b2 ((d + 1) % S.q) = spH S.q p b ((d + 1) % S.q) ↔ p' = p := by
  have G := h.G
  have hq := G.od.1
  have e1 := l.e1
  have x0 := l.x0; have x1 := l.x1; have x2 := l.x2; have x3 := l.x3
  have y0 : (cl (spH S.q p b d).r0 : Z S.q) = cl b.x0 + cl d * cl b.s * 1 := cl_mod _
  have y1 : (cl (spH S.q p b d).r1 : Z S.q) = cl b.x1 + cl d * cl b.s * cl p.n := cl_mod _
  have y2 : (cl (spH S.q p b d).r2 : Z S.q) = cl b.x2 + cl d * cl b.s * cl p.a := cl_mod _
  have y3 : (cl (spH S.q p b d).r3 : Z S.q) = cl b.x3 + cl d * cl b.s * cl p.z := cl_mod _
  rw [y0] at x0
  rw [y1] at x1
  rw [y2] at x2
  rw [y3] at x3
  have hd1 : (cl ((d + 1) % S.q) : Z S.q) = cl d + 1 := cl_mod _
  have ee : ∀ (a a' s s' y y' : Int), ((a + (d + 1) % S.q * s * y) % S.q = (a' + (d + 1) % S.q * s' * y') % S.q) ↔ (cl a : Z S.q) + (cl d + 1) * cl s * cl y = cl a' + (cl d + 1) * cl s' * cl y' := fun a a' s s' y y' => by
    rw [← cl_eq]
    simp only [cl_add, cl_mul, hd1]
  constructor
  · intro hs
    simp only [Sp.mk.injEq, true_and] at hs
    obtain ⟨h0, h1, h2, h3⟩ := hs
    have h0 := (ee _ _ _ _ _ _).mp h0
    have h1 := (ee _ _ _ _ _ _).mp h1
    have h2 := (ee _ _ _ _ _ _).mp h2
    have h3 := (ee _ _ _ _ _ _).mp h3
    have k1 : (cl (1 : Int) : Z S.q) = 1 := rfl
    rw [k1] at h0
    have es : (cl b2.s : Z S.q) = cl b.s := by
      have x0' : (cl b.x0 : Z S.q) + cl d * cl b.s * 1 = cl b2.x0 + cl d * cl b2.s * 1 := x0
      grind
    have hpe := okPe_inv H.pe
    have hpe' := okPe_inv H'.pe
    have en : (cl p'.n : Z S.q) = cl p.n := by
      refine cancel G H.sn ?_
      have x1' : (cl b.x1 : Z S.q) + cl d * cl b.s * cl p.n = cl b2.x1 + cl d * cl b2.s * cl p'.n := x1
      grind
    have ea : (cl p'.a : Z S.q) = cl p.a := by
      refine cancel G H.sn ?_
      have x1' : (cl b.x2 : Z S.q) + cl d * cl b.s * cl p.a = cl b2.x2 + cl d * cl b2.s * cl p'.a := x2
      grind
    have ez : (cl p'.z : Z S.q) = cl p.z := by
      refine cancel G H.sn ?_
      have x1' : (cl b.x3 : Z S.q) + cl d * cl b.s * cl p.z = cl b2.x3 + cl d * cl b2.s * cl p'.z := x3
      grind
    have f1 : p'.n = p.n := rng_eq (q := S.q) (by omega) (by omega) (by omega) (by omega) en
    have f2 : p'.a = p.a := rng_eq (q := S.q) (by omega) (by omega) (by omega) (by omega) ea
    have f3 : p'.z = p.z := rng_eq (q := S.q) (by omega) (by omega) (by omega) (by omega) ez
    cases p'
    cases p
    simp only [Pe.mk.injEq]
    exact ⟨f1, f2, f3⟩
  · intro hp
    subst hp
    have es : (cl b2.s : Z S.q) = cl b.s := cancel G H.m e1
    have x0' : (cl b.x0 : Z S.q) + cl d * cl b.s * 1 = cl b2.x0 + cl d * cl b2.s * 1 := x0
    have x1' : (cl b.x1 : Z S.q) + cl d * cl b.s * cl p'.n = cl b2.x1 + cl d * cl b2.s * cl p'.n := x1
    have x2' : (cl b.x2 : Z S.q) + cl d * cl b.s * cl p'.a = cl b2.x2 + cl d * cl b2.s * cl p'.a := x2
    have x3' : (cl b.x3 : Z S.q) + cl d * cl b.s * cl p'.z = cl b2.x3 + cl d * cl b2.s * cl p'.z := x3
    have k1 : (cl (1 : Int) : Z S.q) = 1 := rfl
    simp only [Sp.mk.injEq, true_and]
    refine ⟨(ee _ _ _ _ _ _).mpr ?_, (ee _ _ _ _ _ _).mpr ?_, (ee _ _ _ _ _ _).mpr ?_, (ee _ _ _ _ _ _).mpr ?_⟩
    · rw [k1]
      grind
    · grind
    · grind
    · grind
theorem addl {a b c : Z S.q} (h : a + b = a + c) : b = c := by grind
/-! ### what does not explain -/
abbrev BadH (S : Su) (X : Xs) (x w : Int) (p : Pe) (b : Bl) (tr d : Int) (key : Int) (rec : Re) : Prop := Bad S key rec (tiH S X x w p b tr) (spH S.q p b d)
theorem Hn.bad_c (h : SuOk S X) (H : Hn S X x w p c r tr b) {c2 : Int} (hc : ¬ (0 ≤ c2 ∧ c2 < S.q)) : BadH S X x w p b tr d (E S.q (X.e * x)) (reH S X x w p c2 r) := bad_ld h fun b2 l => hc l.cr
theorem Hn.bad_c0 (h : SuOk S X) (H : Hn S X x w p c r tr b) : BadH S X x w p b tr d (E S.q (X.e * x)) (reH S X x w p 0 r) := bad_ld h fun b2 l => l.cn (Int.zero_emod _)
theorem Hn.bad_r (h : SuOk S X) (H : Hn S X x w p c r tr b) {r2 : Int} (hr : ¬ (0 ≤ r2 ∧ r2 < S.q)) : BadH S X x w p b tr d (E S.q (X.e * x)) (reH S X x w p c r2) := bad_ld h fun b2 l => hr l.rr
theorem Hn.bad_p (h : SuOk S X) (H : Hn S X x w p c r tr b) {p2 : Pe} (hp : okPe S p2 = false) : BadH S X x w p b tr d (E S.q (X.e * x)) ⟨p2, ofH S X x w p, c, r⟩ := bad_ld h fun b2 l => by
  have := l.pe
  rw [hp] at this
  cases this
theorem Hn.bad_cm (h : SuOk S X) (H : Hn S X x w p c r tr b) {m : Int} (hm : m % S.q ≠ 0) : BadH S X x w p b tr d (E S.q (X.e * x)) (reH S X x w p ((c + m) % S.q) r) := bad_ld h fun b2 l => by
  have e := l.e8
  have e1 := H.clr
  rw [cl_mod] at e
  simp only [cl_add, cl_mul] at e
  exact cl_ne h.G (mul_ne h.G (mul_ne h.G h.n H.xn) hm) (by
    simp only [cl_mul]
    grind)
theorem Hn.bad_rm (h : SuOk S X) (H : Hn S X x w p c r tr b) {m : Int} (hm : m % S.q ≠ 0) : BadH S X x w p b tr d (E S.q (X.e * x)) (reH S X x w p c ((r + m) % S.q)) := bad_ld h fun b2 l => by
  have e := l.e8
  have e1 := H.clr
  rw [cl_mod] at e
  simp only [cl_add, cl_mul] at e
  exact cl_ne h.G (mul_ne h.G h.n hm) (by
    simp only [cl_mul]
    grind)
theorem Hn.bad_oz (h : SuOk S X) (H : Hn S X x w p c r tr b) {k be : Int} (hk : k % S.q ≠ 0) : BadH S X x w p b tr d (E S.q (X.e * x)) ⟨p, ⟨E S.q (mu X p * x + k), E S.q (X.e * w), E S.q be⟩, c, r⟩ := bad_ld h fun b2 l => by
  have e := l.e3
  have e1 := l.e1
  simp only [cl_add, cl_mul] at e e1
  have es := cancel h.G H.m e1
  exact cl_ne h.G (mul_ne h.G hk H.sn) (by
    simp only [cl_mul]
    grind)
theorem Hn.bad_oa (h : SuOk S X) (H : Hn S X x w p c r tr b) {k : Int} (hk : k % S.q ≠ 0) : BadH S X x w p b tr d (E S.q (X.e * x)) ⟨p, ⟨E S.q (mu X p * x), E S.q (X.e * w + k), E S.q (mu X p * w)⟩, c, r⟩ := bad_ld h fun b2 l => by
  have e := l.e8
  have e1 := H.clr
  simp only [cl_add, cl_mul] at e
  exact cl_ne h.G hk (by grind)
theorem Hn.bad_ob (h : SuOk S X) (H : Hn S X x w p c r tr b) {k : Int} (hk : k % S.q ≠ 0) : BadH S X x w p b tr d (E S.q (X.e * x)) ⟨p, ⟨E S.q (mu X p * x), E S.q (X.e * w), E S.q (mu X p * w + k)⟩, c, r⟩ := bad_ld h fun b2 l => by
  have e := l.e9
  have e1 := H.clr
  simp only [cl_add, cl_mul] at e
  exact cl_ne h.G hk (by grind)
theorem Hn.bad_o (h : SuOk S X) (H : Hn S X x w p c r tr b) {o : Of} (ho : okOf S o = false) : BadH S X x w p b tr d (E S.q (X.e * x)) ⟨p, o, c, r⟩ := bad_of h ho
theorem okOf_z {o : Of} (h : isEl S.q o.z = false) : okOf S o = false := by unfold okOf; rw [h]; rfl
theorem okOf_a {o : Of} (h : isEl S.q o.a = false) : okOf S o = false := by unfold okOf; rw [h, Bool.false_and, Bool.and_false]; rfl
theorem okOf_b {o : Of} (h : isEl S.q o.b = false) : okOf S o = false := by unfold okOf; rw [h, Bool.and_false, Bool.and_false]; rfl
theorem okPe_n {p : Pe} (h : ¬ (0 ≤ p.n ∧ p.n < S.q)) : okPe S p = false := by
  cases hh : okPe S p with
  | false => rfl
  | true => exact absurd (okPe_inv hh).1 h
abbrev BadT (S : Su) (X : Xs) (x w : Int) (p : Pe) (c r : Int) (t : Ti) (sp : Sp) : Prop := Bad S (E S.q (X.e * x)) (reH S X x w p c r) t sp
theorem Hn.bad_A (h : SuOk S X) (H : Hn S X x w p c r tr b) {A : Int} (hA : isEl S.q A = false) : BadT S X x w p c r ⟨A, E S.q (sig X b), E S.q (mu X p * x * b.s), E S.q (X.e * w * b.u + X.e * b.v), E S.q (mu X p * w * (b.s * b.u) + mu X p * b.s * b.v), tr⟩ (spH S.q p b d) := Ck.bad_A h hA
theorem Hn.bad_t (h : SuOk S X) (H : Hn S X x w p c r tr b) {t2 : Int} (ht : ¬ (0 ≤ t2 ∧ t2 < S.q)) : BadT S X x w p c r (tiH S X x w p b t2) (spH S.q p b d) := bad_ld h fun b2 l => ht l.tr_
theorem Hn.bad_d (h : SuOk S X) (H : Hn S X x w p c r tr b) {sp : Sp} (hs : ¬ (0 ≤ sp.d ∧ sp.d < S.q) ∨ ¬ (0 ≤ sp.r0 ∧ sp.r0 < S.q) ∨ ¬ (0 ≤ sp.r1 ∧ sp.r1 < S.q) ∨ ¬ (0 ≤ sp.r2 ∧ sp.r2 < S.q) ∨ ¬ (0 ≤ sp.r3 ∧ sp.r3 < S.q)) : BadT S X x w p c r (tiH S X x w p b tr) sp := bad_ld h fun b2 l => by
  rcases hs with z | z | z | z | z
  · exact z l.dr
  · exact z l.y0
  · exact z l.y1
  · exact z l.y2
  · exact z l.y3
/-- the answers of another d -/
theorem Hn.bad_d1 (h : SuOk S X) (H : Hn S X x w p c r tr b) (hd : 0 ≤ d ∧ d < S.q) : BadT S X x w p c r (tiH S X x w p b tr) ⟨(d + 1) % S.q, (spH S.q p b d).r0, (spH S.q p b d).r1, (spH S.q p b d).r2, (spH S.q p b d).r3⟩ := bad_ld h fun b2 l => by
  have t1 := l.T3
  have t0 := (H.own h hd).T3
  have e : (cl ((d + 1) % S.q) : Z S.q) = cl d + 1 := cl_mod _
  have t1' := t1.symm.trans t0
  simp only [e] at t1'
  exact cl_ne h.G (mul_ne h.G H.m H.sn) (by grind)
theorem Hn.bad_a0 (h : SuOk S X) (H : Hn S X x w p c r tr b) (hd : 0 ≤ d ∧ d < S.q) : BadT S X x w p c r (tiH S X x w p b tr) ⟨d, ((spH S.q p b d).r0 + 1) % S.q, (spH S.q p b d).r1, (spH S.q p b d).r2, (spH S.q p b d).r3⟩ := bad_ld h fun b2 l => by
  have t1 := l.T3
  have t0 := (H.own h hd).T3
  have e : (cl (((spH S.q p b d).r0 + 1) % S.q) : Z S.q) = cl (spH S.q p b d).r0 + 1 := cl_mod _
  have t1' := t1.trans t0.symm
  simp only [e] at t1'
  exact cl_ne h.G h.n0 (by grind)
theorem Hn.bad_a1 (h : SuOk S X) (H : Hn S X x w p c r tr b) (hd : 0 ≤ d ∧ d < S.q) : BadT S X x w p c r (tiH S X x w p b tr) ⟨d, (spH S.q p b d).r0, ((spH S.q p b d).r1 + 1) % S.q, (spH S.q p b d).r2, (spH S.q p b d).r3⟩ := bad_ld h fun b2 l => by
  have t1 := l.T3
  have t0 := (H.own h hd).T3
  have e : (cl (((spH S.q p b d).r1 + 1) % S.q) : Z S.q) = cl (spH S.q p b d).r1 + 1 := cl_mod _
  have t1' := t1.trans t0.symm
  simp only [e] at t1'
  exact cl_ne h.G h.n1 (by grind)
theorem Hn.bad_a2 (h : SuOk S X) (H : Hn S X x w p c r tr b) (hd : 0 ≤ d ∧ d < S.q) : BadT S X x w p c r (tiH S X x w p b tr) ⟨d, (spH S.q p b d).r0, (spH S.q p b d).r1, ((spH S.q p b d).r2 + 1) % S.q, (spH S.q p b d).r3⟩ := bad_ld h fun b2 l => by
  have t1 := l.T3
  have t0 := (H.own h hd).T3
  have e : (cl (((spH S.q p b d).r2 + 1) % S.q) : Z S.q) = cl (spH S.q p b d).r2 + 1 := cl_mod _
  have t1' := t1.trans t0.symm
  simp only [e] at t1'
  exact cl_ne h.G h.n2 (by grind)
theorem Hn.bad_a3 (h : SuOk S X) (H : Hn S X x w p c r tr b) (hd : 0 ≤ d ∧ d < S.q) : BadT S X x w p c r (tiH S X x w p b tr) ⟨d, (spH S.q p b d).r0, (spH S.q p b d).r1, (spH S.q p b d).r2, ((spH S.q p b d).r3 + 1) % S.q⟩ := bad_ld h fun b2 l => by
  have t1 := l.T3
  have t0 := (H.own h hd).T3
  have e : (cl (((spH S.q p b d).r3 + 1) % S.q) : Z S.q) = cl (spH S.q p b d).r3 + 1 := cl_mod _
  have t1' := t1.trans t0.symm
  simp only [e] at t1'
  exact cl_ne h.G h.n3 (by grind)
/-- spoilt tickets -/
theorem Hn.bad_tm (h : SuOk S X) (H : Hn S X x w p c r tr b) (hd : 0 ≤ d ∧ d < S.q) {m : Int} (hm : m % S.q ≠ 0) : BadT S X x w p c r (tiH S X x w p b ((tr + m) % S.q)) (spH S.q p b d) := bad_ld h fun b2 l => by
  have t1 := l.T1
  have t0 := (H.own h hd).T1
  rw [cl_mod, cl_add tr m] at t1
  exact cl_ne h.G (mul_ne h.G h.n hm) (by
    simp only [cl_mul]
    grind)
theorem Hn.bad_t0 (h : SuOk S X) (H : Hn S X x w p c r tr b) (hd : 0 ≤ d ∧ d < S.q) {m : Int} (hm : m % S.q ≠ 0) : BadT S X x w p c r ⟨E S.q (mu X p * b.s + m), E S.q (sig X b), E S.q (mu X p * x * b.s), E S.q (X.e * w * b.u + X.e * b.v), E S.q (mu X p * w * (b.s * b.u) + mu X p * b.s * b.v), tr⟩ (spH S.q p b d) := bad_ld h fun b2 l => by
  have t1 := l.T0
  have t0 := (H.own h hd).T0
  simp only [cl_add, cl_mul] at t1 t0
  exact cl_ne h.G (mul_ne h.G (mul_ne h.G H.m H.xn) hm) (by
    simp only [cl_mul]
    grind)
theorem Hn.bad_t1 (h : SuOk S X) (H : Hn S X x w p c r tr b) (hd : 0 ≤ d ∧ d < S.q) {m : Int} (hm : m % S.q ≠ 0) : BadT S X x w p c r ⟨E S.q (mu X p * b.s), E S.q (sig X b + m), E S.q (mu X p * x * b.s), E S.q (X.e * w * b.u + X.e * b.v), E S.q (mu X p * w * (b.s * b.u) + mu X p * b.s * b.v), tr⟩ (spH S.q p b d) := bad_ld h fun b2 l => by
  have t1 := l.T3
  have t0 := (H.own h hd).T3
  have t2 := t1.symm.trans t0
  simp only [cl_add] at t2
  exact cl_ne h.G hm (by grind)
theorem Hn.bad_t2 (h : SuOk S X) (H : Hn S X x w p c r tr b) (hd : 0 ≤ d ∧ d < S.q) {m : Int} (hm : m % S.q ≠ 0) : BadT S X x w p c r ⟨E S.q (mu X p * b.s), E S.q (sig X b), E S.q (mu X p * x * b.s + m), E S.q (X.e * w * b.u + X.e * b.v), E S.q (mu X p * w * (b.s * b.u) + mu X p * b.s * b.v), tr⟩ (spH S.q p b d) := bad_ld h fun b2 l => by
  have t1 := l.T0
  have t0 := (H.own h hd).T0
  simp only [cl_add] at t1
  exact cl_ne h.G (mul_ne h.G H.m hm) (by
    simp only [cl_mul]
    grind)
theorem Hn.bad_t3 (h : SuOk S X) (H : Hn S X x w p c r tr b) (hd : 0 ≤ d ∧ d < S.q) {m : Int} (hm : m % S.q ≠ 0) : BadT S X x w p c r ⟨E S.q (mu X p * b.s), E S.q (sig X b), E S.q (mu X p * x * b.s), E S.q (X.e * w * b.u + X.e * b.v + m), E S.q (mu X p * w * (b.s * b.u) + mu X p * b.s * b.v), tr⟩ (spH S.q p b d) := bad_ld h fun b2 l => by
  have t1 := l.T1
  have t0 := (H.own h hd).T1
  have s1 := l.T2
  have s0 := (H.own h hd).T2
  have e := cancel h.G (mul_ne h.G (mul_ne h.G H.m H.xn) H.sn) (addl (s1.symm.trans s0))
  rw [e] at t1
  have t2 := t1.symm.trans t0
  rw [cl_add _ m] at t2
  exact cl_ne h.G hm (by grind)
theorem Hn.bad_t4 (h : SuOk S X) (H : Hn S X x w p c r tr b) (hd : 0 ≤ d ∧ d < S.q) {m : Int} (hm : m % S.q ≠ 0) : BadT S X x w p c r ⟨E S.q (mu X p * b.s), E S.q (sig X b), E S.q (mu X p * x * b.s), E S.q (X.e * w * b.u + X.e * b.v), E S.q (mu X p * w * (b.s * b.u) + mu X p * b.s * b.v + m), tr⟩ (spH S.q p b d) := bad_ld h fun b2 l => by
  have t1 := l.T1
  have t0 := (H.own h hd).T1
  have s1 := l.T2
  have s0 := (H.own h hd).T2
  have e := cancel h.G (mul_ne h.G h.n H.xn) (addl (t1.symm.trans t0))
  rw [e] at s1
  have t2 := s1.symm.trans s0
  rw [cl_add _ m] at t2
  exact cl_ne h.G hm (by grind)
/-! ### another issuer -/
theorem Hn.str1 (h : SuOk S X) (H : Hn S X x w p c r tr b) {x' : Int} (hx : (x' - x) % S.q ≠ 0) : Bad S (E S.q (X.e * x')) (reH S X x w p c r) (tiH S X x w p b tr) (spH S.q p b d) := bad_ld h fun b2 l => by
  have e := l.e8
  have e1 := H.clr
  simp only [cl_mul] at e
  exact cl_ne h.G (mul_ne h.G (mul_ne h.G h.n (H.cn h)) hx) (by
    simp only [cl_mul, cl_sub]
    grind)
theorem Hn.str2 (h : SuOk S X) (H : Hn S X x w p c r tr b) {x' w' : Int} {p' : Pe} {c' r' tr' : Int} {b' : Bl} (H' : Hn S X x' w' p' c' r' tr' b') (hx : (x' - x) % S.q ≠ 0) : Bad S (E S.q (X.e * x)) (reH S X x' w' p' c' r') (tiH S X x w p b tr) (spH S.q p b d) := bad_ld h fun b2 l => by
  have e := l.e8
  have e1 := H'.clr
  simp only [cl_mul] at e
  exact cl_ne h.G (mul_ne h.G (mul_ne h.G h.n (H'.cn h)) hx) (by
    simp only [cl_mul, cl_sub]
    grind)
theorem Hn.str3 (h : SuOk S X) (H : Hn S X x w p c r tr b) (hd : 0 ≤ d ∧ d < S.q) {x' w' : Int} {p' : Pe} {c' r' tr' : Int} {b' : Bl} (H' : Hn S X x' w' p' c' r' tr' b') (hx : (x' - x) % S.q ≠ 0) : Bad S (E S.q (X.e * x')) (reH S X x' w' p' c' r') (tiH S X x w p b tr) (spH S.q p b d) := bad_ld h fun b2 l => by
  have t1 := l.T1
  have t0 := (H.own h hd).T1
  have t2 := t1.symm.trans t0
  simp only [cl_mul X.e] at t2
  exact cl_ne h.G (mul_ne h.G (mul_ne h.G h.n (chal_ne h.G (fiH S X x w p b))) hx) (by
    simp only [cl_mul, cl_sub]
    grind)
end
end Ck
set_option Elab.async false
set_option linter.all false
set_option autoImplicit false
set_option maxRecDepth 100000
set_option maxHeartbeats 1000000
/-! P7: the law's numbers, primes, orders, powers. -/
namespace Ck
open PySem PySem.Spec PyProof.Rows L2 Fw Evl
/-! ### lists of numbers -/
def nn (ns : List Int) (j : Nat) : Int := (ns[j]?).getD 0
abbrev dL (ns : List Int) : PyData := .list (ns.map .int)
theorem at_ns {ns : List Int} {i : Int} (j : Nat) (h : j < ns.length) (e : i = (j : Int)) : atI (ns.map PyData.int) i = some (.int (nn ns j)) := by
  subst e
  refine atI_nat ?_
  rw [List.getElem?_map]
  unfold nn
  rw [List.getElem?_eq_getElem h]
  rfl
theorem cut_drop {xs : List PyData} (a : Nat) {i : Int} (e : i = (a : Int)) (h : a ≤ xs.length) : Fw.cutD xs (some i) none = xs.drop a := by
  subst e
  unfold Fw.cutD
  rw [HT.sIx_nat, HT.sIx_none, Nat.min_eq_left h]
  exact List.take_of_length_le (by rw [List.length_drop]; omega)
theorem cut_ns {ns : List Int} (a : Nat) {i : Int} (e : i = (a : Int)) (h : a ≤ ns.length) : Fw.cutD (ns.map PyData.int) (some i) none = (ns.drop a).map PyData.int := by
  rw [cut_drop a e (by rw [List.length_map]; exact h), List.map_drop]
theorem nn_drop (ns : List Int) (a j : Nat) : nn (ns.drop a) j = nn ns (a + j) := by
  unfold nn
  rw [List.getElem?_drop]
/-! ### cells, numbers -/
def cellM (ns : List Int) (k : Int) : Int := if k < ns.length then nn ns k.toNat else 0
def numA (c : Int) : Nat → Int × List Int
  | 0 => (c, [])
  | j + 1 => ((numA c j).1 / 1000, (numA c j).2 ++ [(numA c j).1 % 1000])
def mixB (m : Int) (j : Nat) : Int := (m * 16807 + j * 7919 + 13) % 2147483647
def numB (c k : Int) : Nat → Int × List Int
  | 0 => ((c * 48271 + k * 69621 + 11) % 2147483647, [])
  | j + 1 => (mixB (numB c k j).1 j, (numB c k j).2 ++ [(mixB (numB c k j).1 j * mixB (numB c k j).1 j + k * 31 + j) % 1000000007 / 101 % 1000])
def numsM (c k : Int) (n : Nat) : List Int := if 10 ^ 18 ≤ c then (numA c n).2 else (numB c k n).2
theorem numA_len (c : Int) : ∀ n, (numA c n).2.length = n
  | 0 => rfl
  | n + 1 => by
    show ((numA c n).2 ++ [_]).length = n + 1
    rw [List.length_append, numA_len c n]
    rfl
theorem numB_len (c k : Int) : ∀ n, (numB c k n).2.length = n
  | 0 => rfl
  | n + 1 => by
    show ((numB c k n).2 ++ [_]).length = n + 1
    rw [List.length_append, numB_len c k n]
    rfl
theorem nums_len (c k : Int) (n : Nat) : (numsM c k n).length = n := by
  unfold numsM
  split
  · exact numA_len c n
  · exact numB_len c k n
def F_law_cell (ds : List PyData) (r : Except Er PyData) : Prop := ∃ (ns : List Int) (k : Int), ds = [scr ns, .int k] ∧ 0 ≤ k ∧ r = .ok (.int (cellM ns k))
theorem l_law_cell (ds : List PyData) (r : Except Er PyData) (h : F_law_cell ds r) : ds.length = 2 := by obtain ⟨_, _, rfl, _⟩ := h; rfl
theorem u_law_cell {P : PyData → Prop} {R : Er → Prop} {ns : List Int} {k : Int} (h : 0 ≤ k) (p : P (.int (cellM ns k))) : ∃ r, F_law_cell [scr ns, .int k] r ∧ (∀ d, r = .ok d → P d) ∧ (∀ er, r = .error er → R er) := use0 ⟨_, _, rfl, h, rfl⟩ p
def F_law_numbers (ds : List PyData) (r : List PyData) : Prop := ∃ (c k : Int) (n : Nat), ds = [.int c, .int k, .int (n : Int)] ∧ n ≤ 1000 ∧ r = (numsM c k n).map .int
theorem l_law_numbers (ds : List PyData) (r : List PyData) (h : F_law_numbers ds r) : ds.length = 3 := by obtain ⟨_, _, _, rfl, _⟩ := h; rfl
theorem u_law_numbers {P : List PyData → Prop} {c k : Int} {n : Nat} (h : n ≤ 1000) (p : P ((numsM c k n).map .int)) : ∃ r, F_law_numbers [.int c, .int k, .int (n : Int)] r ∧ P r := ⟨_, ⟨_, _, _, rfl, h, rfl⟩, p⟩
/-! ### primes, orders -/
theorem prB_false {n d : Nat} (h2 : 2 ≤ d) (hd : d * d ≤ n) (hn : n ≤ 2100) (hz : n % d = 0) : prB n = false := by
  have h46 : d < 46 := Decidable.byContradiction fun z => by
    have := Nat.mul_le_mul (Nat.le_of_not_lt z) (Nat.le_of_not_lt z)
    omega
  cases h : prB n with
  | false => rfl
  | true =>
    unfold prB at h
    rw [Bool.and_eq_true, List.all_eq_true] at h
    have := h.2 d (List.mem_range.mpr h46)
    rw [hz] at this
    simp only [Bool.or_eq_true, Nat.blt_eq] at this
    rcases this with z | z | z
    · omega
    · omega
    · cases z
theorem prB_end {n p : Nat} (hp : n < p * p) (h : ∀ d, 2 ≤ d → d < p → n % d ≠ 0) : prB n = Nat.blt 1 n := by
  unfold prB
  have : ((List.range 46).all fun d => Nat.blt d 2 || (Nat.blt n (d * d) || !(Nat.beq (n % d) 0))) = true := by
    rw [List.all_eq_true]
    intro d _
    simp only [Bool.or_eq_true, Nat.blt_eq, Bool.not_eq_true']
    by_cases h2 : d < 2
    · exact .inl h2
    · by_cases hd : n < d * d
      · exact .inr (.inl hd)
      · refine .inr (.inr ?_)
        have hlt : d < p := Decidable.byContradiction fun z => by
          have := Nat.mul_le_mul (Nat.le_of_not_lt z) (Nat.le_of_not_lt z)
          omega
        cases hb : Nat.beq (n % d) 0 with
        | false => rfl
        | true => exact absurd (Nat.eq_of_beq_eq_true hb) (h d (by omega) hlt)
  rw [this, Bool.and_true]
def F_law_is_prime (ds : List PyData) (r : Except Er PyData) : Prop := ∃ v : Nat, ds = [.int (v : Int)] ∧ v ≤ 2100 ∧ r = .ok (.bool (prB v))
theorem l_law_is_prime (ds : List PyData) (r : Except Er PyData) (h : F_law_is_prime ds r) : ds.length = 1 := by obtain ⟨_, rfl, _⟩ := h; rfl
theorem u_law_is_prime {P : PyData → Prop} {R : Er → Prop} {i : Int} (v : Nat) (e : i = (v : Int)) (h : v ≤ 2100) (p : P (.bool (prB v))) : ∃ r, F_law_is_prime [.int i] r ∧ (∀ d, r = .ok d → P d) ∧ (∀ er, r = .error er → R er) := use0 ⟨v, by rw [e], h, rfl⟩ p
/-- the greatest order at or under k + 11 -/
def ordD : Nat → Nat
  | 0 => 11
  | k + 1 => if (prB (k + 12) && prB (2 * (k + 12) + 1)) = true then k + 12 else ordD k
theorem ordD_G : ∀ k, k ≤ 1002 → Gq (ordD k : Int)
  | 0, _ => gq_11
  | k + 1, h => by
    unfold ordD
    split
    · rename_i hp
      rw [Bool.and_eq_true] at hp
      exact gq_pr (by omega) (by omega) hp.1 hp.2
    · exact ordD_G k (by omega)
def orderM (n most : Int) : Int := (ordD (n % (most - 10)).toNat : Int)
def F_law_order (ds : List PyData) (r : Except Er PyData) : Prop := ∃ n most : Int, ds = [.int n, .int most] ∧ 11 ≤ most ∧ most ≤ 1013 ∧ r = .ok (.int (orderM n most))
theorem l_law_order (ds : List PyData) (r : Except Er PyData) (h : F_law_order ds r) : ds.length = 2 := by obtain ⟨_, _, rfl, _⟩ := h; rfl
theorem u_law_order {P : PyData → Prop} {R : Er → Prop} {n most : Int} (h : 11 ≤ most ∧ most ≤ 1013) (p : P (.int (orderM n most))) : ∃ r, F_law_order [.int n, .int most] r ∧ (∀ d, r = .ok d → P d) ∧ (∀ er, r = .error er → R er) := use0 ⟨_, _, rfl, h.1, h.2, rfl⟩ p
theorem order_G {n most : Int} (h : 11 ≤ most ∧ most ≤ 1013) : Gq (orderM n most) := by
  have := mod_rng n (most - 10) (by omega)
  exact ordD_G _ (by omega)
/-! ### powers -/
def F_law_power (ds : List PyData) (r : Except Er PyData) : Prop := ∃ m b e : Int, ds = [.int m, .int b, .int e] ∧ 2 ≤ m ∧ m ≤ 4096 ∧ r = .ok (.int (pw b e m))
theorem l_law_power (ds : List PyData) (r : Except Er PyData) (h : F_law_power ds r) : ds.length = 3 := by obtain ⟨_, _, _, rfl, _⟩ := h; rfl
theorem u_law_power {P : PyData → Prop} {R : Er → Prop} {m b e : Int} (h : 2 ≤ m ∧ m ≤ 4096) (p : P (.int (pw b e m))) : ∃ r, F_law_power [.int m, .int b, .int e] r ∧ (∀ d, r = .ok d → P d) ∧ (∀ er, r = .error er → R er) := use0 ⟨_, _, _, rfl, h.1, h.2, rfl⟩ p
/-- of a power of 4 -/
theorem u_law_powerE {P : PyData → Prop} {R : Er → Prop} {q k e m : Int} (G : Gq q) (hm : m = 2 * q + 1) (he : 0 ≤ e) (p : P (.int (E q (k * e)))) : ∃ r, F_law_power [.int m, .int (E q k), .int e] r ∧ (∀ d, r = .ok d → P d) ∧ (∀ er, r = .error er → R er) := by
  subst hm
  exact u_law_power G.p2 (by rw [pw_E G k he]; exact p)
local macro_rules | `(tactic| walk_at "nf2") => `(tactic| show Sa _ _ _ _ ⟨[_, _], none⟩ _)
local macro_rules | `(tactic| walk_at "nf3") => `(tactic| show Sa _ _ _ _ ⟨[_, _, _], none⟩ _)
local macro_rules | `(tactic| walk_at "nf6") => `(tactic| show Sa _ _ _ _ ⟨[_, _, _, _, _, _], none⟩ _)
local macro_rules | `(tactic| walk_at "nf8") => `(tactic| show Sa _ _ _ _ ⟨[_, _, _, _, _, _, _, _], some (3, _)⟩ _)
section
variable {P : Program} {w : World} {K : PySem.W.Frag} {mg : Str → Option Value} {base : Heap} {ea : Er → Addr} {CE : Addr}
/-! ### _law_cell -/
abbrev n_law_cell : List Str := ["_law_script", "_law_k"]
theorem sc_law_cell : FnScope n_law_cell ["_law_script", "_law_k"] (defScope slaw_cell) := ⟨rfl, rfl, rfl, by decide +kernel, rfl, by decide +kernel, by decide +kernel⟩
theorem ok_law_cell (T : Tx K mg ea CE)  {f : Addr} {fd : FuncData} (G : FnP K "_law_cell" slaw_cell f fd) (hm : mg "_law_cell" = some (.ref f)) : Callee P w K mg base CX0 1 "_law_cell" (spF K ea F_law_cell) := by
  refine okV (k := 0) G hm sc_law_cell ?len (fun _ _ _ _ _ _ us hl => match us, hl with | [_, _], _ => rfl) fun cdv A outer s H _E hr => ?_
  case len => exact l_law_cell
  refine ⟨_, (pss_cons (ps_if (pt_cmpR op_lt (pv 1) (pe_callB call_len_seq rfl T.flen boot_len (pa_cons (pv 0) pa_nil)) (nomark _)) (pss_one (ps_ret (pe_ix (ixL (K := K) rfl) (pv 0) (pv 1) (fun _ _ => rfl)))) pss_nil)
      (pss_one (ps_ret pe_int))), fun ds r hF => ?_⟩
  obtain ⟨ns, k, rfl, hk, rfl⟩ := hF
  refine sa_seq ?_
  refine sa_if (vt_test (vl_op (vl_var rfl (vl_len (vl_var rfl (.inr (.inr ⟨ns, rfl, (op_B0 ⟨_, rfl, ⟨fun h => ?_, fun h => ?_⟩⟩)⟩)))))))
  · have h' : k < ns.length := of_decide_eq_true h
    have hl : k.toNat < ns.length := by omega
    refine sa_ret (vl_op (vl_var rfl (vl_var rfl (op_ixS (n := nn ns k.toNat) ?_ ?_))))
    · have e : atI ns ((k.toNat : Nat) : Int) = some (nn ns k.toNat) := by
        refine atI_nat ?_
        unfold nn
        rw [List.getElem?_eq_getElem hl]
        rfl
      rwa [Int.toNat_of_nonneg hk] at e
    · show Except.ok _ = Except.ok _
      unfold cellM
      rw [if_pos h']
  · have h' : ¬ k < ns.length := of_decide_eq_false h
    refine sa_next ?_
    refine sa_ret (vl_int ?_)
    show Except.ok _ = Except.ok _
    unfold cellM
    rw [if_neg h']
/-! ### _law_numbers -/
abbrev n_law_numbers : List Str := ["_law_cell_here", "_law_k", "_law_many", "_law_numbers_here", "_law_rest", "_law_j", "_law_mixed", "_law_twice"]
theorem sc_law_numbers : FnScope n_law_numbers ["_law_cell_here", "_law_k", "_law_many"] (defScope slaw_numbers) := ⟨rfl, rfl, rfl, by decide +kernel, rfl, by decide +kernel, by decide +kernel⟩
theorem ok_law_numbers (T : Tx K mg ea CE)  {f : Addr} {fd : FuncData} (G : FnP K "_law_numbers" slaw_numbers f fd) (hm : mg "_law_numbers" = some (.ref f)) : Callee P w K mg base CX0 1 "_law_numbers" (spN K F_law_numbers) := by
  refine okN (ea := ea) (k := 0) G hm sc_law_numbers ?len (fun _ _ _ _ _ _ us hl => match us, hl with | [_, _, _], _ => rfl) fun cdv A outer s H _E hr => ?_
  case len => exact l_law_numbers
  refine ⟨_, (pss_cons (ps_set (i := 3) sc_law_numbers.nd rfl (.inl rfl) (pe_lst pa_nil))
      (pss_cons (ps_if (pt_cmpR op_ge (pv 0) (pe_op op_pow pe_int pe_int) (nomark _)) (pss_cons (ps_set (i := 4) sc_law_numbers.nd rfl (.inl rfl) (pv 0))
      (pss_cons (ps_for PassesOwn.never rfl (pi_range1 rfl T.frange (pa_cons (pv 2) pa_nil)) (pg_name (i := 5) sc_law_numbers.nd rfl (.inl rfl)) (pss_cons (ps_expr (pe_bm PySem.F.plainAttrs_list PySem.F.slot_list_append PySem.F.type_list_append mt_append (pv 3) (pa_cons (pe_op op_mod (pe_callTy call_int1 rfl T.fint boot_int (pa_cons (pv 4) pa_nil)) pe_int) pa_nil)))
      (pss_one (ps_set (i := 4) sc_law_numbers.nd rfl (.inl rfl) (pe_op op_fdiv (pv 4) pe_int)))))
      (pss_one (ps_ret (pv 3))))) pss_nil)
      (pss_cons (ps_set (i := 6) sc_law_numbers.nd rfl (.inl rfl) (pe_op op_mod (pe_callTy call_int1 rfl T.fint boot_int (pa_cons (pe_op op_add (pe_op op_add (pe_op op_mul (pv 0) pe_int) (pe_op op_mul (pv 1) pe_int)) pe_int) pa_nil)) pe_int))
      (pss_cons (ps_for PassesOwn.never rfl (pi_range1 rfl T.frange (pa_cons (pv 2) pa_nil)) (pg_name (i := 5) sc_law_numbers.nd rfl (.inl rfl)) (pss_cons (ps_set (i := 6) sc_law_numbers.nd rfl (.inl rfl) (pe_op op_mod (pe_callTy call_int1 rfl T.fint boot_int (pa_cons (pe_op op_add (pe_op op_add (pe_op op_mul (pv 6) pe_int) (pe_op op_mul (pv 5) pe_int)) pe_int) pa_nil)) pe_int))
      (pss_cons (ps_set (i := 7) sc_law_numbers.nd rfl (.inl rfl) (pe_op op_mod (pe_callTy call_int1 rfl T.fint boot_int (pa_cons (pe_op op_add (pe_op op_add (pe_op op_mul (pv 6) (pv 6)) (pe_op op_mul (pv 1) pe_int)) (pv 5)) pa_nil)) pe_int))
      (pss_one (ps_expr (pe_bm PySem.F.plainAttrs_list PySem.F.slot_list_append PySem.F.type_list_append mt_append (pv 3) (pa_cons (pe_op op_mod (pe_callTy call_int1 rfl T.fint boot_int (pa_cons (pe_op op_fdiv (pv 7) pe_int) pa_nil)) pe_int) pa_nil)))))))
      (pss_one (ps_ret (pv 3))))))), fun ds r hF => ?_⟩
  obtain ⟨c, k, n, rfl, hn, rfl⟩ := hF
  refine sa_seq ?_
  refine sa_asgO (ln_ rfl) (vn_lst (va_nil ⟨fl_ rfl, ln_ rfl, ?_⟩))
  walk_at "nf8"
  refine sa_seq ?_
  refine sa_if (vt_test (vl_op (vl_var rfl (vl_op (vl_int (vl_int (op_I ?_ (op_B0 ⟨_, rfl, ⟨fun h => ?_, fun h => ?_⟩⟩))))))))
  · exact ⟨by decide, by decide, by decide⟩
  · have h' : 10 ^ 18 ≤ c := of_decide_eq_true h
    refine sa_seq ?_
    refine sa_asg (vl_var rfl (ga_name (.inl rfl) ?_))
    walk_at "nf8"
    refine sa_seq ?_
    refine sa_for (iw_range (vl_var rfl ⟨_, rfl, by omega, by omega, ⟨fun i e => ∃ y, e = ⟨[some (.int c), some (.int k), some (.int (n : Int)), none, some (.int (numA c i).1), y, none, none], some (3, (numA c i).2.map .int)⟩, ⟨_, rfl⟩, fun i d e hd hI => ?_, fun e hI => ?_⟩⟩))
    · obtain ⟨y, rfl⟩ := hI
      have hi : i < n := by
        have := (List.getElem?_eq_some_iff.mp hd).1
        simpa using this
      have hf : flat d = true := by
        rw [List.getElem?_map] at hd
        cases hx : (List.range (Int.toNat n))[i]? with
        | none => rw [hx] at hd; cases hd
        | some c => rw [hx] at hd; cases hd; rfl
      refine ga_name (.inl hf) ?_
      walk_at "nf8"
      refine sa_seq ?_
      refine sa_append rfl ?_ (vl_op (vl_int1 (vl_var rfl (.inl ⟨_, rfl, (vl_int (op_I ?_ ⟨rfl, ?_⟩))⟩))))
      · rw [List.length_map, numA_len]
        omega
      · decide
      walk_at "nf8"
      refine sa_asg (vl_op (vl_var rfl (vl_int (op_I ?_ (ga_name (.inl rfl) ?_)))))
      · exact ⟨by decide, by decide⟩
      refine ⟨some d, ?_⟩
      show (⟨_, _⟩ : En) = ⟨[_, _, _, _, some (.int ((numA c i).1 / 1000)), _, _, _], some (3, ((numA c i).2 ++ [(numA c i).1 % 1000]).map .int)⟩
      rw [List.map_append]
      rfl
    · obtain ⟨y, rfl⟩ := hI
      refine sa_retO rfl ?_
      simp only [List.length_map, List.length_range, Int.toNat_natCast]
      unfold numsM
      rw [if_pos h']
  · have h' : ¬ 10 ^ 18 ≤ c := of_decide_eq_false h
    refine sa_next ?_
    refine sa_seq ?_
    refine sa_asg (vl_op (vl_int1 (vl_op (vl_op (vl_op (vl_var rfl (vl_int (op_I ?_ (vl_op (vl_var rfl (vl_int (op_I ?_ (op_I0 (vl_int (op_I0 (.inl ⟨_, rfl, (vl_int (op_I ?_ (ga_name (.inl rfl) ?_)))⟩))))))))))))))))
    · exact .inr (by decide)
    · exact .inr (by decide)
    · decide
    walk_at "nf8"
    refine sa_seq ?_
    refine sa_for (iw_range (vl_var rfl ⟨_, rfl, by omega, by omega, ⟨fun i e => ∃ y z, e = ⟨[some (.int c), some (.int k), some (.int (n : Int)), none, none, y, some (.int (numB c k i).1), z], some (3, (numB c k i).2.map .int)⟩, ⟨_, _, rfl⟩, fun i d e hd hI => ?_, fun e hI => ?_⟩⟩))
    · obtain ⟨y, z, rfl⟩ := hI
      have hi : i < n := by
        have := (List.getElem?_eq_some_iff.mp hd).1
        simpa using this
      have hd' : d = .int (i : Int) := by
        rw [List.getElem?_map, List.getElem?_range (by simpa using hi)] at hd
        exact (Option.some.inj hd).symm
      subst hd'
      refine ga_name (.inl rfl) ?_
      walk_at "nf8"
      refine sa_seq ?_
      refine sa_asg (vl_op (vl_int1 (vl_op (vl_op (vl_op (vl_var rfl (vl_int (op_I ?_ (vl_op (vl_var rfl (vl_int (op_I ?_ (op_I0 (vl_int (op_I0 (.inl ⟨_, rfl, (vl_int (op_I ?_ (ga_name (.inl rfl) ?_)))⟩))))))))))))))))
      · exact .inr (by decide)
      · exact .inr (by decide)
      · decide
      walk_at "nf8"
      refine sa_seq ?_
      refine sa_asg (vl_op (vl_int1 (vl_op (vl_op (vl_op (vl_var rfl (vl_var rfl (op_I ?_ (vl_op (vl_var rfl (vl_int (op_I ?_ (op_I0 (vl_var rfl (op_I0 (.inl ⟨_, rfl, (vl_int (op_I ?_ (ga_name (.inl rfl) ?_)))⟩))))))))))))))))
      · have := mod_rng ((numB c k i).1 * 16807 + i * 7919 + 13) 2147483647 (by decide)
        exact .inl ⟨by omega, by omega⟩
      · exact .inr (by decide)
      · decide
      walk_at "nf8"
      refine sa_append rfl ?_ (vl_op (vl_int1 (vl_op (vl_var rfl (vl_int (op_I ?_ (.inl ⟨_, rfl, (vl_int (op_I ?_ ⟨rfl, ?_⟩))⟩)))))))
      · rw [List.length_map, numB_len]
        omega
      · exact ⟨by decide, by decide⟩
      · decide
      refine ⟨some (.int i), some (.int ((mixB (numB c k i).1 i * mixB (numB c k i).1 i + k * 31 + i) % 1000000007)), ?_⟩
      show (⟨_, _⟩ : En) = ⟨[_, _, _, _, _, _, some (.int (mixB (numB c k i).1 i)), _], some (3, ((numB c k i).2 ++ [_]).map .int)⟩
      rw [List.map_append]
      rfl
    · obtain ⟨y, z, rfl⟩ := hI
      refine sa_retO rfl ?_
      simp only [List.length_map, List.length_range, Int.toNat_natCast]
      unfold numsM
      rw [if_neg h']
/-! ### _law_is_prime -/
abbrev n_law_is_prime : List Str := ["_law_value", "_law_part"]
theorem sc_law_is_prime : FnScope n_law_is_prime ["_law_value"] (defScope slaw_is_prime) := ⟨rfl, rfl, rfl, by decide +kernel, rfl, by decide +kernel, by decide +kernel⟩
theorem ok_law_is_prime (T : Tx K mg ea CE)  {f : Addr} {fd : FuncData} (G : FnP K "_law_is_prime" slaw_is_prime f fd) (hm : mg "_law_is_prime" = some (.ref f)) : Callee P w K mg base CX0 1 "_law_is_prime" (spF K ea F_law_is_prime) := by
  refine okV (k := 0) G hm sc_law_is_prime ?len (fun _ _ _ _ _ _ us hl => match us, hl with | [_], _ => rfl) fun cdv A outer s H _E hr => ?_
  case len => exact l_law_is_prime
  refine ⟨_, (pss_cons (ps_set (i := 1) sc_law_is_prime.nd rfl (.inl rfl) pe_int)
      (pss_cons (ps_while PassesOwn.never (pt_cmpR op_le (pe_op op_mul (pv 1) (pv 1)) (pv 0) (nomark _)) (pss_cons (ps_if (pt_cmpR op_eq (pe_op op_mod (pe_callTy call_int1 rfl T.fint boot_int (pa_cons (pv 0) pa_nil)) (pv 1)) pe_int (nomark _)) (pss_one (ps_ret pe_bl)) pss_nil)
      (pss_one (ps_set (i := 1) sc_law_is_prime.nd rfl (.inl rfl) (pe_op op_add (pv 1) pe_int)))))
      (pss_one (ps_ret (pe_cmpR op_gt (pv 0) pe_int (nomark _)))))), fun ds r hF => ?_⟩
  obtain ⟨v, rfl, hv, rfl⟩ := hF
  refine sa_seq ?_
  refine sa_asg (vl_int (ga_name (.inl rfl) ?_))
  walk_at "nf2"
  refine sa_seq ?_
  refine sa_while (fun m e => ∃ p : Nat, e = ⟨[some (.int (v : Int)), some (.int (p : Int))], none⟩ ∧ 2 ≤ p ∧ p ≤ 47 ∧ m = 47 - p ∧ ∀ d, 2 ≤ d → d < p → v % d ≠ 0) 45 ⟨2, rfl, by omega, by omega, rfl, fun d h1 h2 => by omega⟩ fun m e' hI => ?_
  obtain ⟨p, rfl, hp2, hp47, hm, hI⟩ := hI
  refine (vt_test (vl_op (vl_op (vl_var rfl (vl_var rfl (op_I ?_ (vl_var rfl (op_B0 ⟨_, rfl, ⟨fun h => ?_, fun h => ?_⟩⟩))))))))
  · exact .inl ⟨by omega, by omega⟩
  · have h' : (p : Int) * p ≤ v := of_decide_eq_true h
    have hpp : p * p ≤ v := by exact_mod_cast h'
    have h46 : p < 46 := Decidable.byContradiction fun z => by
      have := Nat.mul_le_mul (Nat.le_of_not_lt z) (Nat.le_of_not_lt z)
      omega
    refine sa_seq ?_
    refine sa_if (vt_test (vl_op (vl_op (vl_int1 (vl_var rfl (.inl ⟨_, rfl, (vl_var rfl (op_I ?_ (vl_int (op_eqI ⟨_, rfl, ⟨fun h => ?_, fun h => ?_⟩⟩))))⟩))))))
    · show (0 : Int) < p
      omega
    ·
      have h0 : (v : Int) % p = 0 := of_decide_eq_true h
      refine sa_ret (vl_bl ?_)
      have h0' : v % p = 0 := by omega
      rw [prB_false hp2 hpp hv h0']
    · have h0 : ¬ (v : Int) % p = 0 := of_decide_eq_false h
      refine sa_next ?_
      refine sa_asg (vl_op (vl_var rfl (vl_int (op_I0 (ga_name (.inl rfl) ?_)))))
      refine ⟨46 - p, by omega, p + 1, rfl, by omega, by omega, by omega, fun d h1 h2 => ?_⟩
      by_cases hd : d = p
      · subst hd
        omega
      · exact hI d h1 (by omega)
  · have h' : ¬ (p : Int) * p ≤ v := of_decide_eq_false h
    have hpp : v < p * p := by
      have : ¬ p * p ≤ v := fun z => h' (by exact_mod_cast z)
      omega
    refine sa_ret (vl_op (vl_var rfl (vl_int (op_B0 ?_))))
    show Except.ok _ = Except.ok _
    rw [prB_end hpp hI]
    congr 2
    cases hb : Nat.blt 1 v with
    | true => exact (decide_eq_true (by have := Nat.blt_eq.mp hb; omega)).symm
    | false =>
      refine (decide_eq_false fun z => ?_).symm
      have : Nat.blt 1 v = true := Nat.blt_eq.mpr (by omega)
      rw [hb] at this
      cases this
/-! ### _law_order -/
abbrev n_law_order : List Str := ["_law_number", "_law_most", "_law_q"]
theorem sc_law_order : FnScope n_law_order ["_law_number", "_law_most"] (defScope slaw_order) := ⟨rfl, rfl, rfl, by decide +kernel, rfl, by decide +kernel, by decide +kernel⟩
theorem ok_law_order (T : Tx K mg ea CE) (c_law_is_prime : Callee P w K mg base CX0 1 "_law_is_prime" (spF K ea F_law_is_prime)) {f : Addr} {fd : FuncData} (G : FnP K "_law_order" slaw_order f fd) (hm : mg "_law_order" = some (.ref f)) : Callee P w K mg base CX0 2 "_law_order" (spF K ea F_law_order) := by
  refine okV (k := 1) G hm sc_law_order ?len (fun _ _ _ _ _ _ us hl => match us, hl with | [_, _], _ => rfl) fun cdv A outer s H _E hr => ?_
  case len => exact l_law_order
  refine ⟨_, (pss_cons (ps_set (i := 2) sc_law_order.nd rfl (.inl rfl) (pe_op op_add pe_int (pe_op op_mod (pe_callTy call_int1 rfl T.fint boot_int (pa_cons (pv 0) pa_nil)) (pe_op op_sub (pv 1) pe_int))))
      (pss_cons (ps_while PassesOwn.never (PW.pt (pw_or (pt_not (pt_val (c_law_is_prime.c0 (W := W0) hr rfl (pa_cons (pv 2) pa_nil)))) (pw_or1 (pt_not (pt_val (c_law_is_prime.c0 (W := W0) hr rfl (pa_cons (pe_op op_add (pe_op op_mul pe_int (pv 2)) pe_int) pa_nil))))))) (pss_cons (ps_set (i := 2) sc_law_order.nd rfl (.inl rfl) (pe_op op_sub (pv 2) pe_int))
      (pss_one (ps_if (pt_cmpR op_lt (pv 2) pe_int (nomark _)) (pss_cons (ps_set (i := 2) sc_law_order.nd rfl (.inl rfl) pe_int)
      (pss_one ps_break)) pss_nil))))
      (pss_one (ps_ret (pv 2))))), fun ds r hF => ?_⟩
  obtain ⟨n, most, rfl, hm1, hm2, rfl⟩ := hF
  have hmr := mod_rng n (most - 10) (by omega)
  refine sa_seq ?_
  refine sa_asg (vl_op (vl_int (vl_op (vl_int1 (vl_var rfl (.inl ⟨_, rfl, (vl_op (vl_var rfl (vl_int (op_I0 (op_I ?_ (op_I0 (ga_name (.inl rfl) ?_)))))))⟩))))))
  · show 0 < most - 10
    omega
  walk_at "nf3"
  refine sa_seq ?_
  refine sa_while (fun m e => m ≤ 1002 ∧ e = ⟨[some (.int n), some (.int most), some (.int ((m + 11 : Nat) : Int))], none⟩ ∧ ordD m = ordD (n % (most - 10)).toNat) (n % (most - 10)).toNat ⟨by omega, ?_, rfl⟩ fun m e' hI => ?_
  · have e : (11 : Int) + n % (most - 10) = (((n % (most - 10)).toNat + 11 : Nat) : Int) := by omega
    rw [← e]
  obtain ⟨hm, rfl, hI⟩ := hI
  have hc : CMul 2 ((m + 11 : Nat) : Int) := .inl ⟨by decide, by decide⟩
  have e2 : 2 * ((m + 11 : Nat) : Int) + 1 = ((2 * (m + 11) + 1 : Nat) : Int) := by omega
  refine vt_imp (P := fun b => b = !(prB (m + 11) && prB (2 * (m + 11) + 1))) (vt_or (vt_not (vt_B (vl_call (va_cons (vl_var rfl (va_nil (u_law_is_prime (m + 11) rfl (by omega) ⟨_, rfl, ⟨fun h => (vt_not (vt_B (vl_call (va_cons (vl_op (vl_op (vl_int (vl_var rfl (op_I hc (vl_int (op_I0 (va_nil (u_law_is_prime (2 * (m + 11) + 1) e2 (by omega) ⟨_, rfl, ?_⟩))))))))))))), fun h => ?_⟩⟩))))))))
    fun b hb => ⟨fun h => ?_, fun h => ?_⟩
  · have h' : prB (m + 11) = true := by simpa using h
    rw [h', Bool.true_and]
  · have h' : prB (m + 11) = false := by simpa using h
    rw [h', Bool.false_and]
    rfl
  · have hp : (prB (m + 11) && prB (2 * (m + 11) + 1)) = false := by
      rw [h] at hb
      have hb' := hb.symm
      rwa [Bool.not_eq_true'] at hb'
    refine sa_seq ?_
    refine sa_asg (vl_op (vl_var rfl (vl_int (op_I0 (ga_name (.inl rfl) ?_)))))
    walk_at "nf3"
    cases m with
    | zero => exact absurd hp (by decide +kernel)
    | succ m =>
      refine sa_if (vt_test (vl_op (vl_var rfl (vl_int (op_B0 ⟨_, rfl, ⟨fun h => ?_, fun h => ?_⟩⟩)))))
      · have h' : ((m + 1 + 11 : Nat) : Int) - 1 < 11 := of_decide_eq_true h
        omega
      · refine sa_next ⟨m, by omega, by omega, ?_, ?_⟩
        · have e3 : ((m + 1 + 11 : Nat) : Int) - 1 = ((m + 11 : Nat) : Int) := by omega
          rw [← e3]
        · rw [← hI]
          show _ = (if (prB (m + 12) && prB (2 * (m + 12) + 1)) = true then m + 12 else ordD m)
          refine (if_neg fun z => ?_).symm
          have z' : (prB (m + 1 + 11) && prB (2 * (m + 1 + 11) + 1)) = true := z
          rw [z'] at hp
          cases hp
  · have hp : (prB (m + 11) && prB (2 * (m + 11) + 1)) = true := by
      rw [h] at hb
      simpa using hb.symm
    refine sa_ret (vl_var rfl ?_)
    show Except.ok _ = Except.ok _
    unfold orderM
    rw [← hI]
    cases m with
    | zero => rfl
    | succ m =>
      unfold ordD
      rw [if_pos hp]
/-! ### _law_power -/
abbrev n_law_power : List Str := ["_law_p", "_law_base", "_law_exponent", "_law_value", "_law_square", "_law_rest"]
theorem sc_law_power : FnScope n_law_power ["_law_p", "_law_base", "_law_exponent"] (defScope slaw_power) := ⟨rfl, rfl, rfl, by decide +kernel, rfl, by decide +kernel, by decide +kernel⟩
theorem ok_law_power (T : Tx K mg ea CE)  {f : Addr} {fd : FuncData} (G : FnP K "_law_power" slaw_power f fd) (hm : mg "_law_power" = some (.ref f)) : Callee P w K mg base CX0 1 "_law_power" (spF K ea F_law_power) := by
  refine okV (k := 0) G hm sc_law_power ?len (fun _ _ _ _ _ _ us hl => match us, hl with | [_, _, _], _ => rfl) fun cdv A outer s H _E hr => ?_
  case len => exact l_law_power
  refine ⟨_, (pss_cons (ps_set (i := 3) sc_law_power.nd rfl (.inl rfl) pe_int)
      (pss_cons (ps_set (i := 4) sc_law_power.nd rfl (.inl rfl) (pe_op op_mod (pe_callTy call_int1 rfl T.fint boot_int (pa_cons (pv 1) pa_nil)) (pv 0)))
      (pss_cons (ps_set (i := 5) sc_law_power.nd rfl (.inl rfl) (pe_callTy call_int1 rfl T.fint boot_int (pa_cons (pv 2) pa_nil)))
      (pss_cons (ps_while PassesOwn.never (pt_cmpR op_gt (pv 5) pe_int (nomark _)) (pss_cons (ps_if (pt_cmpR op_eq (pe_op op_mod (pe_callTy call_int1 rfl T.fint boot_int (pa_cons (pv 5) pa_nil)) pe_int) pe_int (nomark _)) (pss_one (ps_set (i := 3) sc_law_power.nd rfl (.inl rfl) (pe_op op_mod (pe_callTy call_int1 rfl T.fint boot_int (pa_cons (pe_op op_mul (pv 3) (pv 4)) pa_nil)) (pv 0)))) pss_nil)
      (pss_cons (ps_set (i := 4) sc_law_power.nd rfl (.inl rfl) (pe_op op_mod (pe_callTy call_int1 rfl T.fint boot_int (pa_cons (pe_op op_mul (pv 4) (pv 4)) pa_nil)) (pv 0)))
      (pss_one (ps_set (i := 5) sc_law_power.nd rfl (.inl rfl) (pe_op op_fdiv (pv 5) pe_int))))))
      (pss_one (ps_ret (pv 3))))))), fun ds r hF => ?_⟩
  obtain ⟨m, b, x0, rfl, hm1, hm2, rfl⟩ := hF
  refine sa_seq ?_
  refine sa_asg (vl_int (ga_name (.inl rfl) ?_))
  walk_at "nf6"
  refine sa_seq ?_
  refine sa_asg (vl_op (vl_int1 (vl_var rfl (.inl ⟨_, rfl, (vl_var rfl (op_I ?_ (ga_name (.inl rfl) ?_)))⟩))))
  · show 0 < m
    omega
  walk_at "nf6"
  refine sa_seq ?_
  refine sa_asg (vl_int1 (vl_var rfl (.inl ⟨_, rfl, (ga_name (.inl rfl) ?_)⟩)))
  walk_at "nf6"
  refine sa_seq ?_
  refine sa_while (fun n e => ∃ x v s : Int, n = x.toNat ∧ e = ⟨[some (.int m), some (.int b), some (.int x0), some (.int v), some (.int s), some (.int x)], none⟩ ∧ 0 ≤ v ∧ v < m ∧ 0 ≤ s ∧ s < m ∧ v * s ^ x.toNat % m = b ^ x0.toNat % m) x0.toNat ?_ fun n e' hI => ?_
  · refine ⟨x0, 1, b % m, rfl, rfl, by omega, by omega, (mod_rng _ _ (by omega)).1, (mod_rng _ _ (by omega)).2, ?_⟩
    rw [Int.one_mul, pow_mod]
  · obtain ⟨x, v, s, rfl, rfl, v0, v1, s0, s1, hI⟩ := hI
    refine (vt_test (vl_op (vl_var rfl (vl_int (op_B0 ⟨_, rfl, ⟨fun h => ?_, fun h => ?_⟩⟩)))))
    · have hx : 0 < x := of_decide_eq_true h
      have hs : CMul s s := .inl ⟨by omega, by omega⟩
      refine sa_seq ?_
      refine sa_if (vt_test (vl_op (vl_op (vl_int1 (vl_var rfl (.inl ⟨_, rfl, (vl_int (op_I ?_ (vl_int (op_eqI ⟨_, rfl, ⟨fun h => ?_, fun h => ?_⟩⟩))))⟩))))))
      · decide
      · have hx1 : x % 2 = 1 := of_decide_eq_true h
        refine sa_asg (vl_op (vl_int1 (vl_op (vl_var rfl (vl_var rfl (op_I ?_ (.inl ⟨_, rfl, (vl_var rfl (op_I ?_ (ga_name (.inl rfl) ?_)))⟩)))))))
        · exact .inl ⟨by omega, by omega⟩
        · show 0 < m
          omega
        walk_at "nf6"
        refine sa_seq ?_
        refine sa_asg (vl_op (vl_int1 (vl_op (vl_var rfl (vl_var rfl (op_I ?_ (.inl ⟨_, rfl, (vl_var rfl (op_I ?_ (ga_name (.inl rfl) ?_)))⟩)))))))
        · exact hs
        · show 0 < m
          omega
        walk_at "nf6"
        refine sa_asg (vl_op (vl_var rfl (vl_int (op_I ?_ (ga_name (.inl rfl) ?_)))))
        · exact ⟨by decide, by decide⟩
        refine ⟨(x / 2).toNat, by omega, x / 2, v * s % m, s * s % m, rfl, rfl, (mod_rng _ _ (by omega)).1, (mod_rng _ _ (by omega)).2, (mod_rng _ _ (by omega)).1, (mod_rng _ _ (by omega)).2, ?_⟩
        rw [← hI, ras_odd]
        congr 2
        congr 1
        omega
      · have hx1 : ¬ x % 2 = 1 := of_decide_eq_false h
        refine sa_next ?_
        refine sa_seq ?_
        refine sa_asg (vl_op (vl_int1 (vl_op (vl_var rfl (vl_var rfl (op_I ?_ (.inl ⟨_, rfl, (vl_var rfl (op_I ?_ (ga_name (.inl rfl) ?_)))⟩)))))))
        · exact hs
        · show 0 < m
          omega
        walk_at "nf6"
        refine sa_asg (vl_op (vl_var rfl (vl_int (op_I ?_ (ga_name (.inl rfl) ?_)))))
        · exact ⟨by decide, by decide⟩
        refine ⟨(x / 2).toNat, by omega, x / 2, v, s * s % m, rfl, rfl, v0, v1, (mod_rng _ _ (by omega)).1, (mod_rng _ _ (by omega)).2, ?_⟩
        rw [← hI, ras_even]
        congr 2
        congr 1
        omega
    · have hx : ¬ 0 < x := of_decide_eq_false h
      refine sa_ret (vl_var rfl ?_)
      have e0 : x.toNat = 0 := by omega
      rw [e0, Int.pow_zero, Int.mul_one, Int.emod_eq_of_lt v0 v1] at hI
      rw [hI]
      rfl
end
end Ck
set_option Elab.async false
set_option linter.all false
set_option autoImplicit false
set_option maxRecDepth 100000
set_option maxHeartbeats 1000000
/-! P8: the law's setups, people, blindings, challenges. -/
namespace Ck
open PySem PySem.Spec PyProof.Rows L2 Fw Evl
/-! ### setups -/
abbrev suX (q : Int) (X : Xs) : Su := ⟨q, E q X.e, E q X.e0, E q X.e1, E q X.e2, E q X.e3⟩
theorem SuOk.eq {S : Su} {X : Xs} (h : SuOk S X) : S = suX S.q X := by
  have h0 := h.g
  have h1 := h.g0
  have h2 := h.g1
  have h3 := h.g2
  have h4 := h.g3
  cases S
  simp only [Su.mk.injEq, true_and]
  exact ⟨h0, h1, h2, h3, h4⟩
def stX (q : Int) (ns : List Int) : Xs := ⟨1 + nn ns 1 % (q - 1), 1 + nn ns 2 % (q - 1), 1 + nn ns 3 % (q - 1), 1 + nn ns 4 % (q - 1), 1 + nn ns 5 % (q - 1)⟩
def setupM (ns : List Int) (most : Int) : Su := suX (orderM (nn ns 0) most) (stX (orderM (nn ns 0) most) ns)
theorem one_ne_q {q n : Int} (h : 11 ≤ q) : (1 + n % (q - 1)) % q ≠ 0 := by
  have := mod_rng n (q - 1) (by omega)
  exact lt_ne (by omega) (by omega)
theorem setup_ok {ns : List Int} {most : Int} (h : 11 ≤ most ∧ most ≤ 1013) : SuOk (setupM ns most) (stX (orderM (nn ns 0) most) ns) := by
  have G := order_G (n := nn ns 0) h
  have h1 := G.od.1
  exact ⟨G, rfl, rfl, rfl, rfl, rfl, one_ne_q h1, one_ne_q h1, one_ne_q h1, one_ne_q h1, one_ne_q h1⟩
def F_law_setup (ds : List PyData) (r : Except Er PyData) : Prop := ∃ (ns : List Int) (most : Int), ds = [dL ns, .int most] ∧ 6 ≤ ns.length ∧ (11 ≤ most ∧ most ≤ 1013) ∧ r = .ok (dSu (setupM ns most))
theorem l_law_setup (ds : List PyData) (r : Except Er PyData) (h : F_law_setup ds r) : ds.length = 2 := by obtain ⟨_, _, rfl, _⟩ := h; rfl
theorem u_law_setup {P : PyData → Prop} {R : Er → Prop} {ns : List Int} {most : Int} (h : 6 ≤ ns.length ∧ (11 ≤ most ∧ most ≤ 1013)) (p : P (dSu (setupM ns most))) : ∃ r, F_law_setup [dL ns, .int most] r ∧ (∀ d, r = .ok d → P d) ∧ (∀ er, r = .error er → R er) := use0 ⟨_, _, rfl, h.1, h.2, rfl⟩ p
/-! ### products -/
def pS (a b c d x y z w : Int) : Nat → Int
  | 0 => 0
  | 1 => a * x
  | 2 => a * x + b * y
  | 3 => a * x + b * y + c * z
  | _ => a * x + b * y + c * z + d * w
def F_law_product (ds : List PyData) (r : Except Er PyData) : Prop := ∃ (q a b c d x y z w : Int), ds = [.int (2 * q + 1), .tuple [.int (E q a), .int (E q b), .int (E q c), .int (E q d)], .tuple [.int x, .int y, .int z, .int w]] ∧ Gq q ∧ (0 ≤ x ∧ 0 ≤ y ∧ 0 ≤ z ∧ 0 ≤ w) ∧ r = .ok (.int (E q (a * x + b * y + c * z + d * w)))
theorem l_law_product (ds : List PyData) (r : Except Er PyData) (h : F_law_product ds r) : ds.length = 3 := by obtain ⟨_, _, _, _, _, _, _, _, _, rfl, _⟩ := h; rfl
theorem u_law_product {P : PyData → Prop} {R : Er → Prop} {q a b c d x y z w : Int} (h : Gq q ∧ (0 ≤ x ∧ 0 ≤ y ∧ 0 ≤ z ∧ 0 ≤ w)) (p : P (.int (E q (a * x + b * y + c * z + d * w)))) : ∃ r, F_law_product [.int (2 * q + 1), .tuple [.int (E q a), .int (E q b), .int (E q c), .int (E q d)], .tuple [.int x, .int y, .int z, .int w]] r ∧ (∀ d, r = .ok d → P d) ∧ (∀ er, r = .error er → R er) := use0 ⟨_, _, _, _, _, _, _, _, _, rfl, h.1, h.2, rfl⟩ p
/-! ### people -/
def persM (ns : List Int) (q : Int) : Pe := ⟨nn ns 0 % q, nn ns 1 % 5, nn ns 2 % 5⟩
theorem pers_ok (ns : List Int) {S : Su} (h : 0 < S.q) : okPe S (persM ns S.q) = true := by
  have h1 := mod_rng (nn ns 0) S.q h
  have h2 := mod_rng (nn ns 1) 5 (by decide)
  have h3 := mod_rng (nn ns 2) 5 (by decide)
  unfold okPe persM
  simp only [isEx_mk h1, Bool.true_and, Bool.and_eq_true, decide_eq_true_eq]
  omega
def F_law_person (ds : List PyData) (r : Except Er PyData) : Prop := ∃ (ns : List Int) (S : Su), ds = [dL ns, dSu S] ∧ 3 ≤ ns.length ∧ 0 < S.q ∧ r = .ok (dPe (persM ns S.q))
theorem l_law_person (ds : List PyData) (r : Except Er PyData) (h : F_law_person ds r) : ds.length = 2 := by obtain ⟨_, _, rfl, _⟩ := h; rfl
theorem u_law_person {P : PyData → Prop} {R : Er → Prop} {ns : List Int} {S : Su} (h : 3 ≤ ns.length ∧ 0 < S.q) (p : P (dPe (persM ns S.q))) : ∃ r, F_law_person [dL ns, dSu S] r ∧ (∀ d, r = .ok d → P d) ∧ (∀ er, r = .error er → R er) := use0 ⟨_, _, rfl, h.1, h.2, rfl⟩ p
def F_law_mark (ds : List PyData) (r : Except Er PyData) : Prop := ∃ (q : Int) (X : Xs) (p : Pe), ds = [dSu (suX q X), dPe p] ∧ Gq q ∧ (0 ≤ p.n ∧ 0 ≤ p.a ∧ 0 ≤ p.z) ∧ r = .ok (.int (E q (mu X p)))
theorem l_law_mark (ds : List PyData) (r : Except Er PyData) (h : F_law_mark ds r) : ds.length = 2 := by obtain ⟨_, _, _, rfl, _⟩ := h; rfl
theorem u_law_mark {P : PyData → Prop} {R : Er → Prop} {q : Int} {X : Xs} {p : Pe} (h : Gq q ∧ (0 ≤ p.n ∧ 0 ≤ p.a ∧ 0 ≤ p.z)) (k : P (.int (E q (mu X p)))) : ∃ r, F_law_mark [dSu (suX q X), dPe p] r ∧ (∀ d, r = .ok d → P d) ∧ (∀ er, r = .error er → R er) := use0 ⟨_, _, _, rfl, h.1, h.2, rfl⟩ k
/-! ### blindings -/
def blM (ns : List Int) (q : Int) : Bl := ⟨1 + nn ns 0 % (q - 1), 1 + nn ns 1 % (q - 1), nn ns 2 % q, nn ns 3 % q, nn ns 4 % q, nn ns 5 % q, nn ns 6 % q⟩
theorem bl_ok (ns : List Int) {S : Su} (h : 11 ≤ S.q) : okBl S (blM ns S.q) = true := by
  have h0 := mod_rng (nn ns 0) (S.q - 1) (by omega)
  have h1 := mod_rng (nn ns 1) (S.q - 1) (by omega)
  have md : ∀ a : Int, 0 ≤ a % S.q ∧ a % S.q < S.q := fun a => mod_rng a S.q (by omega)
  unfold okBl blM
  simp only [List.all_cons, List.all_nil, Bool.and_true, isEx_mk (md _), isEx_mk (show 0 ≤ 1 + nn ns 0 % (S.q - 1) ∧ 1 + nn ns 0 % (S.q - 1) < S.q by omega), isEx_mk (show 0 ≤ 1 + nn ns 1 % (S.q - 1) ∧ 1 + nn ns 1 % (S.q - 1) < S.q by omega), Bool.true_and, Bool.not_eq_true', Bool.or_eq_false_iff]
  exact ⟨decide_eq_false (by omega), decide_eq_false (by omega)⟩
def F_law_blinding (ds : List PyData) (r : Except Er PyData) : Prop := ∃ (ns : List Int) (q : Int), ds = [dL ns, .int q] ∧ 7 ≤ ns.length ∧ 2 ≤ q ∧ r = .ok (dBl (blM ns q))
theorem l_law_blinding (ds : List PyData) (r : Except Er PyData) (h : F_law_blinding ds r) : ds.length = 2 := by obtain ⟨_, _, rfl, _⟩ := h; rfl
theorem u_law_blinding {P : PyData → Prop} {R : Er → Prop} {ns : List Int} {q : Int} (h : 7 ≤ ns.length ∧ 2 ≤ q) (p : P (dBl (blM ns q))) : ∃ r, F_law_blinding [dL ns, .int q] r ∧ (∀ d, r = .ok d → P d) ∧ (∀ er, r = .error er → R er) := use0 ⟨_, _, rfl, h.1, h.2, rfl⟩ p
/-! ### challenges, quotients -/
def F_law_challenge (ds : List PyData) (r : Except Er PyData) : Prop := ∃ (q : Int) (f : Fi), ds = [.int q, dFi f] ∧ 2 ≤ q ∧ Sm f.l ∧ r = .ok (.int (chalM q f))
theorem l_law_challenge (ds : List PyData) (r : Except Er PyData) (h : F_law_challenge ds r) : ds.length = 2 := by obtain ⟨_, _, rfl, _⟩ := h; rfl
theorem u_law_challenge {P : PyData → Prop} {R : Er → Prop} {q : Int} {f : Fi} (h : 2 ≤ q ∧ Sm f.l) (p : P (.int (chalM q f))) : ∃ r, F_law_challenge [.int q, dFi f] r ∧ (∀ d, r = .ok d → P d) ∧ (∀ er, r = .error er → R er) := use0 ⟨_, _, rfl, h.1, h.2, rfl⟩ p
def quoL (q a b : Int) : Int := a * pw b (q - 2) q % q
def F_law_quotient (ds : List PyData) (r : Except Er PyData) : Prop := ∃ (q a b : Int), ds = [.int q, .int a, .int b] ∧ 2 ≤ q ∧ q ≤ 4096 ∧ r = .ok (.int (quoL q a b))
theorem l_law_quotient (ds : List PyData) (r : Except Er PyData) (h : F_law_quotient ds r) : ds.length = 3 := by obtain ⟨_, _, _, rfl, _⟩ := h; rfl
theorem u_law_quotient {P : PyData → Prop} {R : Er → Prop} {q a b : Int} (h : 2 ≤ q ∧ q ≤ 4096) (p : P (.int (quoL q a b))) : ∃ r, F_law_quotient [.int q, .int a, .int b] r ∧ (∀ d, r = .ok d → P d) ∧ (∀ er, r = .error er → R er) := use0 ⟨_, _, _, rfl, h.1, h.2, rfl⟩ p
theorem quoL_cl {q a b : Int} (G : Gq q) (h : b % q ≠ 0) : 0 ≤ quoL q a b ∧ quoL q a b < q ∧ (cl (quoL q a b) : Z q) * cl b = cl a := by
  obtain ⟨x, hx, h0, h1, h2⟩ := quoM_ok (a := a) G h
  unfold quoM at hx
  rw [if_neg h] at hx
  have e : quoL q a b = x := Except.ok.inj hx
  rw [e]
  exact ⟨h0, h1, h2⟩
theorem join_len {ns : List Int} (h : ∀ n ∈ ns, 0 ≤ n ∧ n < 8192) : (Str.join " " (ns.map strI)).length ≤ 5 * ns.length := by
  induction ns with
  | nil => exact Nat.le_of_eq rfl
  | cons a r ih =>
    have ha := h a List.mem_cons_self
    have hl := str_len' ha.1 ha.2
    have ih := ih fun m hm => h m (List.mem_cons_of_mem _ hm)
    cases r with
    | nil =>
      show (strI a).length ≤ _
      simp only [List.length_cons, List.length_nil]
      omega
    | cons b r =>
      show (strI a ++ Str.ofString " " ++ Str.join " " ((b :: r).map strI)).length ≤ _
      have h3 : (Str.ofString " ").length = 1 := by decide +kernel
      rw [TL.len_tl, TL.tl_append, TL.tl_append, List.length_append, List.length_append, ← TL.len_tl, ← TL.len_tl, ← TL.len_tl, h3]
      simp only [List.length_cons] at ih ⊢
      omega
local macro_rules | `(tactic| walk_at "nf5") => `(tactic| show Sa _ _ _ _ ⟨[_, _, _, _, _], none⟩ _)
local macro_rules | `(tactic| walk_at "nf6") => `(tactic| show Sa _ _ _ _ ⟨[_, _, _, _, _, _], none⟩ _)
local macro_rules | `(tactic| walk_at "nf4") => `(tactic| show Sa _ _ _ _ ⟨[_, _, _, _], none⟩ _)
section
variable {P : Program} {w : World} {K : PySem.W.Frag} {mg : Str → Option Value} {base : Heap} {ea : Er → Addr} {CE : Addr}
/-! ### _law_setup -/
abbrev n_law_setup : List Str := ["_law_numbers_here", "_law_most", "_law_q", "_law_p", "_law_bases", "_law_k"]
theorem sc_law_setup : FnScope n_law_setup ["_law_numbers_here", "_law_most"] (defScope slaw_setup) := ⟨rfl, rfl, rfl, by decide +kernel, rfl, by decide +kernel, by decide +kernel⟩
theorem ok_law_setup (T : Tx K mg ea CE) (c_law_order : Callee P w K mg base CX0 2 "_law_order" (spF K ea F_law_order)) (c_law_power : Callee P w K mg base CX0 1 "_law_power" (spF K ea F_law_power)) {f : Addr} {fd : FuncData} (G : FnP K "_law_setup" slaw_setup f fd) (hm : mg "_law_setup" = some (.ref f)) : Callee P w K mg base CX0 3 "_law_setup" (spF K ea F_law_setup) := by
  refine okV (k := 2) G hm sc_law_setup ?len (fun _ _ _ _ _ _ us hl => match us, hl with | [_, _], _ => rfl) fun cdv A outer s H _E hr => ?_
  case len => exact l_law_setup
  refine ⟨_, (pss_cons (ps_set (i := 2) sc_law_setup.nd rfl (.inr rfl) (c_law_order.c0 (W := W0) hr rfl (pa_cons (pe_ix (ixL (K := K) rfl) (pv 0) pe_int (fun _ _ => rfl)) (pa_cons (pv 1) pa_nil))))
      (pss_cons (ps_set (i := 3) sc_law_setup.nd rfl (.inr rfl) (pe_op op_add (pe_op op_mul pe_int (pv 2)) pe_int))
      (pss_cons (ps_set (i := 4) sc_law_setup.nd rfl (.inl rfl) (pe_callTy call_tuple_of rfl T.ftuple boot_tuple (pa_cons (pe_lc (own := [("_law_k", 5)]) (g := gName 5) (tt := tYes) rfl sc_law_setup.nd (pi_range1 rfl T.frange (pa_cons pe_int pa_nil)) (blkOk_by (N := n_law_setup) (sc := defScope slaw_setup) (by decide +kernel)) (fun _ _ _ _ _ => (pg_name (i := 5) sc_law_setup.nd rfl (Or.inl rfl) (hf := .inr rfl))) (fun _ _ _ _ _ => pts_nil) (fun _ _ _ _ _ => (c_law_power.c0 (W := W0) (hr.mono (by decide)) rfl (pa_cons (pv 3) (pa_cons pe_int (pa_cons (pe_op op_add pe_int (pe_op op_mod (pe_callTy call_int1 rfl T.fint boot_int (pa_cons (pe_ix (ixL (K := K) rfl) (pv 0) (pe_op op_add pe_int (pv 5)) (fun _ _ => rfl)) pa_nil)) (pe_op op_sub (pv 2) pe_int))) pa_nil)))))) pa_nil)))
      (pss_one (ps_ret (pe_tup (pa_cons (pv 2) (pa_cons (pv 4) pa_nil)))))))), fun ds r hF => ?_⟩
  obtain ⟨ns, most, rfl, hl, hm, rfl⟩ := hF
  have G := order_G (n := nn ns 0) hm
  have h1 := G.od.1
  refine sa_seq ?_
  refine sa_asg (vl_call (va_cons (vl_op (vl_var rfl (vl_int (op_ixL (at_ns 0 (by omega) rfl) (va_cons (vl_var rfl (va_nil (u_law_order hm (ga_name (.inl rfl) ?_)))))))))))
  walk_at "nf6"
  refine sa_seq ?_
  refine sa_asg (vl_op (vl_op (vl_int (vl_var rfl (op_I ?_ (vl_int (op_I0 (ga_name (.inl rfl) ?_))))))))
  · exact .inl ⟨by decide, by decide⟩
  walk_at "nf6"
  refine sa_seq ?_
  generalize hq : orderM (nn ns 0) most = q at *
  refine sa_asg (vl_tupOf (vl_vn (vn_lc1 (iw_range (vl_int ⟨_, rfl, by decide, by decide, ⟨[.int (E q (1 + nn ns 1 % (q - 1))), .int (E q (1 + nn ns 2 % (q - 1))), .int (E q (1 + nn ns 3 % (q - 1))), .int (E q (1 + nn ns 4 % (q - 1))), .int (E q (1 + nn ns 5 % (q - 1)))], rfl, ln_ rfl, (.inl ⟨_, rfl, (ga_name (.inl rfl) ?_)⟩), fun k d r hd hr' => ?_⟩⟩)))))
  · walk_at "nf6"
    refine sa_ret (vl_tup (va_cons (vl_var rfl (va_cons (vl_var rfl (va_nil ⟨fl_ rfl, ln_ rfl, ?_⟩))))))
    unfold setupM
    rw [hq]
    rfl
  · have go : ∃ j : Nat, j < 5 ∧ d = .int (j : Int) ∧ r = .int (E q (1 + nn ns (1 + j) % (q - 1))) := match k, hd, hr' with
      | 0, hd, hr' => ⟨0, by decide, (Option.some.inj hd).symm, (Option.some.inj hr').symm⟩
      | 1, hd, hr' => ⟨1, by decide, (Option.some.inj hd).symm, (Option.some.inj hr').symm⟩
      | 2, hd, hr' => ⟨2, by decide, (Option.some.inj hd).symm, (Option.some.inj hr').symm⟩
      | 3, hd, hr' => ⟨3, by decide, (Option.some.inj hd).symm, (Option.some.inj hr').symm⟩
      | 4, hd, hr' => ⟨4, by decide, (Option.some.inj hd).symm, (Option.some.inj hr').symm⟩
      | k + 5, hd, _ => nomatch hd
    obtain ⟨j, hj, rfl, rfl⟩ := go
    refine ⟨rfl, rfl, vl_call (va_cons (vl_var rfl (va_cons (vl_int (va_cons (vl_op (vl_int (vl_op (vl_int1 (vl_op (vl_var rfl (vl_op (vl_int (vl_var rfl (op_I0 (op_ixL (at_ns (1 + j) (by omega) (by omega)) (.inl ⟨_, rfl, (vl_op (vl_var rfl (vl_int (op_I0 (op_I ?_ (op_I0 (va_nil (u_law_power G.p2 ?_))))))))⟩)))))))))))))))))⟩
    · show 0 < q - 1
      omega
    · exact congrArg PyData.int (pw_4 G (by have := mod_rng (nn ns (1 + j)) (q - 1) (by omega); omega))
/-! ### _law_product -/
abbrev n_law_product : List Str := ["_law_p", "_law_bases", "_law_exponents", "_law_value", "_law_k"]
theorem sc_law_product : FnScope n_law_product ["_law_p", "_law_bases", "_law_exponents"] (defScope slaw_product) := ⟨rfl, rfl, rfl, by decide +kernel, rfl, by decide +kernel, by decide +kernel⟩
theorem ok_law_product (T : Tx K mg ea CE) (c_law_power : Callee P w K mg base CX0 1 "_law_power" (spF K ea F_law_power)) {f : Addr} {fd : FuncData} (G : FnP K "_law_product" slaw_product f fd) (hm : mg "_law_product" = some (.ref f)) : Callee P w K mg base CX0 2 "_law_product" (spF K ea F_law_product) := by
  refine okV (k := 1) G hm sc_law_product ?len (fun _ _ _ _ _ _ us hl => match us, hl with | [_, _, _], _ => rfl) fun cdv A outer s H _E hr => ?_
  case len => exact l_law_product
  refine ⟨_, (pss_cons (ps_set (i := 3) sc_law_product.nd rfl (.inl rfl) pe_int)
      (pss_cons (ps_for PassesOwn.never rfl (pi_range1 rfl T.frange (pa_cons (pe_callB call_len_seq rfl T.flen boot_len (pa_cons (pv 1) pa_nil)) pa_nil)) (pg_name (i := 4) sc_law_product.nd rfl (.inl rfl)) (pss_one (ps_set (i := 3) sc_law_product.nd rfl (.inl rfl) (pe_op op_mod (pe_callTy call_int1 rfl T.fint boot_int (pa_cons (pe_op op_mul (pv 3) (c_law_power.c0 (W := W0) hr rfl (pa_cons (pv 0) (pa_cons (pe_ix (ixT (K := K) rfl) (pv 1) (pv 4) (fun _ _ => rfl)) (pa_cons (pe_ix (ixT (K := K) rfl) (pv 2) (pv 4) (fun _ _ => rfl)) pa_nil))))) pa_nil)) (pv 0)))))
      (pss_one (ps_ret (pv 3))))), fun ds r hF => ?_⟩
  obtain ⟨q, a, b, c, d, x, y, z, w, rfl, G, ⟨hx, hy, hz, hw⟩, rfl⟩ := hF
  have h1 := G.od.1
  have h2 := G.od.2
  refine sa_seq ?_
  refine sa_asg (vl_int (ga_name (.inl rfl) ?_))
  walk_at "nf5"
  refine sa_seq ?_
  refine sa_for (iw_range (vl_len (vl_var rfl (.inr (.inl ⟨_, rfl, ⟨_, rfl, (by decide : -(2:Int) ^ 62 ≤ 4), (by decide : (4:Int) < 2 ^ 62), ⟨fun i e => ∃ u, e = ⟨[some (.int (2 * q + 1)), some (.tuple [.int (E q a), .int (E q b), .int (E q c), .int (E q d)]), some (.tuple [.int x, .int y, .int z, .int w]), some (.int (E q (pS a b c d x y z w i))), u], none⟩, ⟨none, by
    show (⟨_, _⟩ : En) = ⟨[_, _, _, some (.int (E q 0)), _], _⟩
    rw [E_zero G]⟩, fun i dd e hd hI => ?_, fun e hI => ?_⟩⟩⟩)))))
  · obtain ⟨u, rfl⟩ := hI
    have go : ∃ (k v : Int), dd = .int (i : Int) ∧ 0 ≤ v ∧ atI [PyData.int (E q a), .int (E q b), .int (E q c), .int (E q d)] (i : Int) = some (.int (E q k)) ∧ atI [PyData.int x, .int y, .int z, .int w] (i : Int) = some (.int v) ∧ pS a b c d x y z w (i + 1) = pS a b c d x y z w i + k * v := match i, hd with
      | 0, hd => ⟨a, x, (Option.some.inj hd).symm, hx, rfl, rfl, (Int.zero_add _).symm⟩
      | 1, hd => ⟨b, y, (Option.some.inj hd).symm, hy, rfl, rfl, rfl⟩
      | 2, hd => ⟨c, z, (Option.some.inj hd).symm, hz, rfl, rfl, rfl⟩
      | 3, hd => ⟨d, w, (Option.some.inj hd).symm, hw, rfl, rfl, rfl⟩
      | k + 4, hd => nomatch hd
    obtain ⟨k, v, rfl, hv, ek, ev, es⟩ := go
    refine ga_name (.inl rfl) ?_
    walk_at "nf5"
    refine sa_asg (vl_op (vl_int1 (vl_op (vl_var rfl (vl_call (va_cons (vl_var rfl (va_cons (vl_op (vl_var rfl (vl_var rfl (op_ixT ek (va_cons (vl_op (vl_var rfl (vl_var rfl (op_ixT ev (va_nil (u_law_powerE G rfl hv (op_I ?_ (.inl ⟨_, rfl, (vl_var rfl (op_I ?_ (ga_name (.inl rfl) ?_)))⟩)))))))))))))))))))))
    · have := E_rng G (pS a b c d x y z w i)
      exact .inl ⟨by omega, by omega⟩
    · show 0 < 2 * q + 1
      omega
    · refine ⟨some (.int i), ?_⟩
      rw [E_mul G, es]
      rfl
  · obtain ⟨u, rfl⟩ := hI
    refine sa_ret (vl_var rfl ?_)
    rfl
/-! ### _law_person -/
abbrev n_law_person : List Str := ["_law_numbers_here", "_law_setup_here"]
theorem sc_law_person : FnScope n_law_person ["_law_numbers_here", "_law_setup_here"] (defScope slaw_person) := ⟨rfl, rfl, rfl, by decide +kernel, rfl, by decide +kernel, by decide +kernel⟩
theorem ok_law_person (T : Tx K mg ea CE)  {f : Addr} {fd : FuncData} (G : FnP K "_law_person" slaw_person f fd) (hm : mg "_law_person" = some (.ref f)) : Callee P w K mg base CX0 1 "_law_person" (spF K ea F_law_person) := by
  refine okV (k := 0) G hm sc_law_person ?len (fun _ _ _ _ _ _ us hl => match us, hl with | [_, _], _ => rfl) fun cdv A outer s H _E hr => ?_
  case len => exact l_law_person
  refine ⟨_, (pss_one (ps_ret (pe_tup (pa_cons (pe_op op_mod (pe_callTy call_int1 rfl T.fint boot_int (pa_cons (pe_ix (ixL (K := K) rfl) (pv 0) pe_int (fun _ _ => rfl)) pa_nil)) (pe_ix (ixT (K := K) rfl) (pv 1) pe_int (fun _ _ => rfl))) (pa_cons (pe_op op_mod (pe_callTy call_int1 rfl T.fint boot_int (pa_cons (pe_ix (ixL (K := K) rfl) (pv 0) pe_int (fun _ _ => rfl)) pa_nil)) pe_int) (pa_cons (pe_op op_mod (pe_callTy call_int1 rfl T.fint boot_int (pa_cons (pe_ix (ixL (K := K) rfl) (pv 0) pe_int (fun _ _ => rfl)) pa_nil)) pe_int) pa_nil)))))), fun ds r hF => ?_⟩
  obtain ⟨ns, S, rfl, hl, hq, rfl⟩ := hF
  refine sa_ret (vl_tup (va_cons (vl_op (vl_int1 (vl_op (vl_var rfl (vl_int (op_ixL (at_ns 0 (by omega) rfl) (.inl ⟨_, rfl, (vl_op (vl_var rfl (vl_int (op_ixT rfl (op_I ?_ (va_cons (vl_op (vl_int1 (vl_op (vl_var rfl (vl_int (op_ixL (at_ns 1 (by omega) rfl) (.inl ⟨_, rfl, (vl_int (op_I ?_ (va_cons (vl_op (vl_int1 (vl_op (vl_var rfl (vl_int (op_ixL (at_ns 2 (by omega) rfl) (.inl ⟨_, rfl, (vl_int (op_I ?_ (va_nil ⟨fl_ rfl, ln_ rfl, ?_⟩)))⟩))))))))))⟩)))))))))))))⟩)))))))))
  · exact hq
  · decide
  · decide
  · rfl
/-! ### _law_mark -/
abbrev n_law_mark : List Str := ["_law_setup_here", "_law_person_here"]
theorem sc_law_mark : FnScope n_law_mark ["_law_setup_here", "_law_person_here"] (defScope slaw_mark) := ⟨rfl, rfl, rfl, by decide +kernel, rfl, by decide +kernel, by decide +kernel⟩
theorem ok_law_mark (T : Tx K mg ea CE) (c_law_product : Callee P w K mg base CX0 2 "_law_product" (spF K ea F_law_product)) {f : Addr} {fd : FuncData} (G : FnP K "_law_mark" slaw_mark f fd) (hm : mg "_law_mark" = some (.ref f)) : Callee P w K mg base CX0 3 "_law_mark" (spF K ea F_law_mark) := by
  refine okV (k := 2) G hm sc_law_mark ?len (fun _ _ _ _ _ _ us hl => match us, hl with | [_, _], _ => rfl) fun cdv A outer s H _E hr => ?_
  case len => exact l_law_mark
  refine ⟨_, (pss_one (ps_ret (c_law_product.c0 (W := W0) hr rfl (pa_cons (pe_op op_add (pe_op op_mul pe_int (pe_ix (ixT (K := K) rfl) (pv 0) pe_int (fun _ _ => rfl))) pe_int) (pa_cons (pe_slice sl_tupA (pe_ix (ixT (K := K) rfl) (pv 0) pe_int (fun _ _ => rfl)) (po_some pe_int) po_none) (pa_cons (pe_op op_catA (pe_tup (pa_cons pe_int pa_nil)) (pv 1)) pa_nil)))))), fun ds r hF => ?_⟩
  obtain ⟨q, X, p, rfl, G, ⟨h1, h2, h3⟩, rfl⟩ := hF
  refine sa_ret (vl_call (va_cons (vl_op (vl_op (vl_int (vl_op (vl_var rfl (vl_int (op_ixT rfl (op_I ?_ (vl_int (op_I0 (va_cons (vl_slT (vl_op (vl_var rfl (vl_int (op_ixT rfl ⟨_, rfl, (vo_some (vl_int ⟨_, rfl, (vo_none (va_cons (vl_op (vl_tup (va_cons (vl_int (va_nil ⟨fl_ rfl, ln_ rfl, (vl_var rfl (op_catD (ln_ rfl) (va_nil (u_law_product (a := X.e0) (b := X.e1) (c := X.e2) (d := X.e3) (x := 1) (y := p.n) (z := p.a) (w := p.z) ?_ ?_))))⟩)))))))⟩))⟩))))))))))))))))))
  · exact .inl ⟨by decide, by decide⟩
  · exact ⟨G, by decide, h1, h2, h3⟩
  · rfl
/-! ### _law_blinding -/
abbrev n_law_blinding : List Str := ["_law_numbers_here", "_law_q", "_law_rest", "_law_k"]
theorem sc_law_blinding : FnScope n_law_blinding ["_law_numbers_here", "_law_q"] (defScope slaw_blinding) := ⟨rfl, rfl, rfl, by decide +kernel, rfl, by decide +kernel, by decide +kernel⟩
theorem ok_law_blinding (T : Tx K mg ea CE)  {f : Addr} {fd : FuncData} (G : FnP K "_law_blinding" slaw_blinding f fd) (hm : mg "_law_blinding" = some (.ref f)) : Callee P w K mg base CX0 1 "_law_blinding" (spF K ea F_law_blinding) := by
  refine okV (k := 0) G hm sc_law_blinding ?len (fun _ _ _ _ _ _ us hl => match us, hl with | [_, _], _ => rfl) fun cdv A outer s H _E hr => ?_
  case len => exact l_law_blinding
  refine ⟨_, (pss_cons (ps_set (i := 2) sc_law_blinding.nd rfl (.inl rfl) (pe_callTy call_tuple_of rfl T.ftuple boot_tuple (pa_cons (pe_lc (own := [("_law_k", 3)]) (g := gName 3) (tt := tYes) rfl sc_law_blinding.nd (pi_range1 rfl T.frange (pa_cons pe_int pa_nil)) (blkOk_by (N := n_law_blinding) (sc := defScope slaw_blinding) (by decide +kernel)) (fun _ _ _ _ _ => (pg_name (i := 3) sc_law_blinding.nd rfl (Or.inl rfl) (hf := .inr rfl))) (fun _ _ _ _ _ => pts_nil) (fun _ _ _ _ _ => (pe_op op_mod (pe_callTy call_int1 rfl T.fint boot_int (pa_cons (pe_ix (ixL (K := K) rfl) (pv 0) (pe_op op_add pe_int (pv 3)) (fun _ _ => rfl)) pa_nil)) (pv 1)))) pa_nil)))
      (pss_one (ps_ret (pe_tup (pa_cons (pe_op op_add pe_int (pe_op op_mod (pe_callTy call_int1 rfl T.fint boot_int (pa_cons (pe_ix (ixL (K := K) rfl) (pv 0) pe_int (fun _ _ => rfl)) pa_nil)) (pe_op op_sub (pv 1) pe_int))) (pa_cons (pe_op op_add pe_int (pe_op op_mod (pe_callTy call_int1 rfl T.fint boot_int (pa_cons (pe_ix (ixL (K := K) rfl) (pv 0) pe_int (fun _ _ => rfl)) pa_nil)) (pe_op op_sub (pv 1) pe_int))) (pa_cons (pe_op op_mod (pe_callTy call_int1 rfl T.fint boot_int (pa_cons (pe_ix (ixL (K := K) rfl) (pv 0) pe_int (fun _ _ => rfl)) pa_nil)) (pv 1)) (pa_cons (pv 2) pa_nil)))))))), fun ds r hF => ?_⟩
  obtain ⟨ns, q, rfl, hl, hq, rfl⟩ := hF
  refine sa_seq ?_
  refine sa_asg (vl_tupOf (vl_vn (vn_lc1 (iw_range (vl_int ⟨_, rfl, by decide, by decide, ⟨[.int (nn ns 3 % q), .int (nn ns 4 % q), .int (nn ns 5 % q), .int (nn ns 6 % q)], rfl, ln_ rfl, (.inl ⟨_, rfl, (ga_name (.inl rfl) ?_)⟩), fun k d r hd hr' => ?_⟩⟩)))))
  · walk_at "nf4"
    refine sa_ret (vl_tup (va_cons (vl_op (vl_int (vl_op (vl_int1 (vl_op (vl_var rfl (vl_int (op_ixL (at_ns 0 (by omega) rfl) (.inl ⟨_, rfl, (vl_op (vl_var rfl (vl_int (op_I0 (op_I ?_ (op_I0 (va_cons (vl_op (vl_int (vl_op (vl_int1 (vl_op (vl_var rfl (vl_int (op_ixL (at_ns 1 (by omega) rfl) (.inl ⟨_, rfl, (vl_op (vl_var rfl (vl_int (op_I0 (op_I ?_ (op_I0 (va_cons (vl_op (vl_int1 (vl_op (vl_var rfl (vl_int (op_ixL (at_ns 2 (by omega) rfl) (.inl ⟨_, rfl, (vl_var rfl (op_I ?_ (va_cons (vl_var rfl (va_nil ⟨fl_ rfl, ln_ rfl, ?_⟩)))))⟩))))))))))))))⟩))))))))))))))))⟩)))))))))))
    · show 0 < q - 1
      omega
    · show 0 < q - 1
      omega
    · show 0 < q
      omega
    · rfl
  · have go : ∃ j : Nat, j < 4 ∧ d = .int (j : Int) ∧ r = .int (nn ns (3 + j) % q) := match k, hd, hr' with
      | 0, hd, hr' => ⟨0, by decide, (Option.some.inj hd).symm, (Option.some.inj hr').symm⟩
      | 1, hd, hr' => ⟨1, by decide, (Option.some.inj hd).symm, (Option.some.inj hr').symm⟩
      | 2, hd, hr' => ⟨2, by decide, (Option.some.inj hd).symm, (Option.some.inj hr').symm⟩
      | 3, hd, hr' => ⟨3, by decide, (Option.some.inj hd).symm, (Option.some.inj hr').symm⟩
      | k + 4, hd, _ => nomatch hd
    obtain ⟨j, hj, rfl, rfl⟩ := go
    refine ⟨rfl, rfl, vl_op (vl_int1 (vl_op (vl_var rfl (vl_op (vl_int (vl_var rfl (op_I0 (op_ixL (at_ns (3 + j) (by omega) (by omega)) (.inl ⟨_, rfl, (vl_var rfl (op_I ?_ rfl))⟩)))))))))⟩
    show 0 < q
    omega
/-! ### _law_challenge -/
abbrev n_law_challenge : List Str := ["_law_q", "_law_numbers_here", "_law_value", "_law_sign", "_law_number", "_law_k"]
theorem sc_law_challenge : FnScope n_law_challenge ["_law_q", "_law_numbers_here"] (defScope slaw_challenge) := ⟨rfl, rfl, rfl, by decide +kernel, rfl, by decide +kernel, by decide +kernel⟩
theorem ok_law_challenge (T : Tx K mg ea CE)  {f : Addr} {fd : FuncData} (G : FnP K "_law_challenge" slaw_challenge f fd) (hm : mg "_law_challenge" = some (.ref f)) : Callee P w K mg base CX0 1 "_law_challenge" (spF K ea F_law_challenge) := by
  refine okV (k := 0) G hm sc_law_challenge ?len (fun _ _ _ _ _ _ us hl => match us, hl with | [_, _], _ => rfl) fun cdv A outer s H _E hr => ?_
  case len => exact l_law_challenge
  refine ⟨_, (pss_cons (ps_set (i := 2) sc_law_challenge.nd rfl (.inl rfl) (pe_op op_mod (pe_callTy call_int1 rfl T.fint boot_int (pa_cons (pe_op op_add (pe_op op_mul (pv 0) pe_int) pe_int) pa_nil)) pe_int))
      (pss_cons (ps_for PassesOwn.never rfl (pi_str (pe_op op_add_str pe_str (pe_bm PySem.F.plainAttrs_str PySem.F.slot_str_join PySem.F.type_str_join mt_join pe_str (pa_cons (pe_lc (own := [("_law_number", 4)]) (g := gName 4) (tt := tYes) rfl sc_law_challenge.nd (pi_tup (pv 1)) (blkOk_by (N := n_law_challenge) (sc := defScope slaw_challenge) (by decide +kernel)) (fun _ _ _ _ _ => (pg_name (i := 4) sc_law_challenge.nd rfl (Or.inl rfl) (hf := .inr rfl))) (fun _ _ _ _ _ => pts_nil) (fun _ _ _ _ _ => (pe_callTy call_str_int rfl T.fstr boot_str (pa_cons (pv 4) pa_nil)))) pa_nil)))) (pg_name (i := 3) sc_law_challenge.nd rfl (.inl rfl)) (pss_one (ps_set (i := 2) sc_law_challenge.nd rfl (.inl rfl) (pe_op op_mod (pe_callTy call_int1 rfl T.fint boot_int (pa_cons (pe_op op_add (pe_op op_add (pe_op op_mul (pv 2) pe_int) (pe_callB call_ord rfl T.ford boot_ord (pa_cons (pv 3) pa_nil))) pe_int) pa_nil)) pe_int))))
      (pss_cons (ps_for PassesOwn.never rfl (pi_range1 rfl T.frange (pa_cons pe_int pa_nil)) (pg_name (i := 5) sc_law_challenge.nd rfl (.inl rfl)) (pss_one (ps_set (i := 2) sc_law_challenge.nd rfl (.inl rfl) (pe_op op_mod (pe_callTy call_int1 rfl T.fint boot_int (pa_cons (pe_op op_add (pe_op op_mul (pv 2) pe_int) pe_int) pa_nil)) pe_int))))
      (pss_one (ps_ret (pe_op op_add pe_int (pe_op op_mod (pe_callTy call_int1 rfl T.fint boot_int (pa_cons (pe_op op_mod (pe_op op_fdiv (pv 2) pe_int) pe_int) pa_nil)) (pe_op op_sub (pv 0) pe_int)))))))), fun ds r hF => ?_⟩
  obtain ⟨q, f, rfl, hq, hs, rfl⟩ := hF
  have hjl := join_len hs.2
  have hs1 := hs.1
  refine sa_seq ?_
  refine sa_asg (vl_op (vl_int1 (vl_op (vl_op (vl_var rfl (vl_int (op_I ?_ (vl_int (op_I0 (.inl ⟨_, rfl, (vl_int (op_I ?_ (ga_name (.inl rfl) ?_)))⟩))))))))))
  · exact .inr (by decide)
  · decide
  walk_at "nf6"
  refine sa_seq ?_
  have ej : (Str.ofString "ticket " ++ Txt.join (Str.ofString " ") (f.l.map strI)) = joinedM "ticket" f.l := by
    rw [TL.join_eq]
    show _ = (Str.ofString "ticket" ++ Str.ofString " " ++ Str.join (Str.ofString " ") (f.l.map strI))
    congr 1
  have h6 : (Str.ofString "ticket ").length = 7 := by decide +kernel
  refine sa_for (iw_str (vl_op (vl_str (vl_join (vl_str ⟨_, rfl, (vl_vn (vn_lc1 (iw_tup (vl_var rfl ⟨_, rfl, ⟨f.l.map fun n => .str (strI n), rfl, ?_, ⟨f.l.map strI, ?_, ?_, (op_addS ?_ ⟨_, rfl, ⟨fun i e => ∃ y, e = ⟨[some (.int q), some (dFi f), some (.int (((joinedM "ticket" f.l).cps.toList.take i).foldl coinStep ((0 * 31 + q * 1009 + 11) % 2147483647))), y, none, none], none⟩, ⟨none, by rw [Int.zero_mul, Int.zero_add]; rfl⟩, fun i d e hd hI => ?_, fun e hI => ?_⟩⟩)⟩, fun k d r hd hr' => ?_⟩⟩))))⟩)))))
  · exact ln_ rfl
  · rfl
  · have h1 := sum_sm hs.2
    have h3 : (Str.ofString " ").length = 1 := by decide +kernel
    simp only [List.length_map, h3] at h1 ⊢
    omega
  · rw [TL.join_eq, h6]
    have : (Str.join (Str.ofString " ") (f.l.map strI)).length ≤ 5 * f.l.length := hjl
    omega
  · obtain ⟨y, rfl⟩ := hI
    rw [ej] at hd
    rw [List.getElem?_map] at hd
    cases hc : (joinedM "ticket" f.l).cps.toList[i]? with
    | none => rw [hc] at hd; cases hd
    | some c =>
      rw [hc] at hd
      cases hd
      refine ga_name (.inl rfl) ?_
      walk_at "nf6"
      refine sa_asg (vl_op (vl_int1 (vl_op (vl_op (vl_op (vl_var rfl (vl_int (op_I ?_ (vl_ord (vl_var rfl ⟨_, rfl, (op_I0 (vl_int (op_I0 (.inl ⟨_, rfl, (vl_int (op_I ?_ (ga_name (.inl rfl) ?_)))⟩))))⟩))))))))))
      · exact .inr (by decide)
      · decide
      · refine ⟨some (.str ⟨#[c]⟩), ?_⟩
        rw [foldl_more coinStep _ hc]
        rfl
  · obtain ⟨y, rfl⟩ := hI
    rw [ej, List.length_map, List.take_length]
    generalize hv : (joinedM "ticket" f.l).cps.toList.foldl coinStep ((0 * 31 + q * 1009 + 11) % 2147483647) = v
    refine sa_seq ?_
    refine sa_for (iw_range (vl_int ⟨_, rfl, by decide, by decide, ⟨fun i e => ∃ z, e = ⟨[some (.int q), some (dFi f), some (.int (Nat.repeat coinTurn i v)), y, none, z], none⟩, ⟨_, rfl⟩, fun i d e hd hI => ?_, fun e hI => ?_⟩⟩))
    · obtain ⟨z, rfl⟩ := hI
      have hf : flat d = true := by
        rw [List.getElem?_map] at hd
        cases hx : (List.range (Int.toNat 3))[i]? with
        | none => rw [hx] at hd; cases hd
        | some c => rw [hx] at hd; cases hd; rfl
      refine ga_name (.inl hf) ?_
      walk_at "nf6"
      refine sa_asg (vl_op (vl_int1 (vl_op (vl_op (vl_var rfl (vl_int (op_I ?_ (vl_int (op_I0 (.inl ⟨_, rfl, (vl_int (op_I ?_ (ga_name (.inl rfl) ?_)))⟩))))))))))
      · exact .inr (by decide)
      · decide
      · exact ⟨_, rfl⟩
    obtain ⟨z, rfl⟩ := hI
    refine sa_ret (vl_op (vl_int (vl_op (vl_int1 (vl_op (vl_op (vl_var rfl (vl_int (op_I ?_ (vl_int (op_I ?_ (.inl ⟨_, rfl, (vl_op (vl_var rfl (vl_int (op_I0 (op_I ?_ (op_I0 ?_))))))⟩))))))))))))
    · exact ⟨by decide, by decide⟩
    · decide
    · show 0 < q - 1
      omega
    · show Except.ok _ = Except.ok _
      unfold chalM challengeM coinM coinEnd
      rw [hv]
      rfl
  · rw [List.getElem?_map] at hr'
    have hd2 : (f.l.map PyData.int)[k]? = some d := hd
    rw [List.getElem?_map] at hd2
    cases hn : f.l[k]? with
    | none => rw [hn] at hd2; cases hd2
    | some n =>
      rw [hn] at hd2 hr'
      cases hd2
      cases hr'
      have hn' := hs.2 n (List.mem_of_getElem? hn)
      exact ⟨rfl, rfl, vl_strI (vl_var rfl ⟨_, rfl, log_sm hn'.1 hn'.2, rfl⟩)⟩
/-! ### _law_quotient -/
abbrev n_law_quotient : List Str := ["_law_q", "_law_first", "_law_second"]
theorem sc_law_quotient : FnScope n_law_quotient ["_law_q", "_law_first", "_law_second"] (defScope slaw_quotient) := ⟨rfl, rfl, rfl, by decide +kernel, rfl, by decide +kernel, by decide +kernel⟩
theorem ok_law_quotient (T : Tx K mg ea CE) (c_law_power : Callee P w K mg base CX0 1 "_law_power" (spF K ea F_law_power)) {f : Addr} {fd : FuncData} (G : FnP K "_law_quotient" slaw_quotient f fd) (hm : mg "_law_quotient" = some (.ref f)) : Callee P w K mg base CX0 2 "_law_quotient" (spF K ea F_law_quotient) := by
  refine okV (k := 1) G hm sc_law_quotient ?len (fun _ _ _ _ _ _ us hl => match us, hl with | [_, _, _], _ => rfl) fun cdv A outer s H _E hr => ?_
  case len => exact l_law_quotient
  refine ⟨_, (pss_one (ps_ret (pe_op op_mod (pe_callTy call_int1 rfl T.fint boot_int (pa_cons (pe_op op_mul (pv 1) (c_law_power.c0 (W := W0) hr rfl (pa_cons (pv 0) (pa_cons (pv 2) (pa_cons (pe_op op_sub (pv 0) pe_int) pa_nil))))) pa_nil)) (pv 0)))), fun ds r hF => ?_⟩
  obtain ⟨q, a, b, rfl, h1, h2, rfl⟩ := hF
  refine sa_ret (vl_op (vl_int1 (vl_op (vl_var rfl (vl_call (va_cons (vl_var rfl (va_cons (vl_var rfl (va_cons (vl_op (vl_var rfl (vl_int (op_I0 (va_nil (u_law_power ⟨h1, h2⟩ (op_I ?_ (.inl ⟨_, rfl, (vl_var rfl (op_I ?_ ?_))⟩))))))))))))))))))
  · have := pw_rng (b := b) (e := q - 2) (m := q) (by omega)
    exact .inr ⟨by omega, by omega⟩
  · show 0 < q
    omega
  · rfl
end
end Ck
set_option Elab.async false
set_option linter.all false
set_option autoImplicit false
set_option maxRecDepth 100000
set_option maxHeartbeats 1000000
/-! P9: the law's sessions and spends. -/
namespace Ck
open PySem PySem.Spec PyProof.Rows L2 Fw Evl
/-! ### sessions -/
def cH (q : Int) (X : Xs) (x w : Int) (p : Pe) (b : Bl) : Int := quoL q (chalM q (fiH (suX q X) X x w p b)) b.u
def rH (q : Int) (X : Xs) (x w : Int) (p : Pe) (b : Bl) : Int := (w + cH q X x w p b * x) % q
def tH (q : Int) (X : Xs) (x w : Int) (p : Pe) (b : Bl) : Int := (b.u * rH q X x w p b + b.v) % q
theorem hn_H {q : Int} {X : Xs} {x w : Int} {p : Pe} {b : Bl} (h : SuOk (suX q X) X) (hx : x % q ≠ 0) (hp : okPe (suX q X) p = true) (hb : okBl (suX q X) b = true) (hm : mu X p % q ≠ 0) : Hn (suX q X) X x w p (cH q X x w p b) (rH q X x w p b) (tH q X x w p b) b := by
  obtain ⟨_, bu, _, _, _, _, _, _, bn⟩ := okBl_inv hb
  have hu : b.u % q ≠ 0 := by
    rw [Int.emod_eq_of_lt bu.1 bu.2]
    exact bn
  obtain ⟨h0, h1, h2⟩ := quoL_cl (a := chalM q (fiH (suX q X) X x w p b)) h.G hu
  exact ⟨hx, hp, hm, hb, ⟨h0, h1⟩, h2, rfl, rfl⟩
abbrev dSe (q : Int) (X : Xs) (x w : Int) (p : Pe) (b : Bl) : PyData := .tuple [dOf (ofH (suX q X) X x w p), .int (cH q X x w p b), .int (rH q X x w p b), dTi (tiH (suX q X) X x w p b (tH q X x w p b))]
def SeOk (q : Int) (X : Xs) (x w : Int) (p : Pe) (b : Bl) : Prop := Gq q ∧ (0 ≤ x ∧ x < q) ∧ (0 ≤ w ∧ w < q) ∧ okPe (suX q X) p = true ∧ okBl (suX q X) b = true
def F_law_session (ds : List PyData) (r : Except Er PyData) : Prop := ∃ (q : Int) (X : Xs) (x w : Int) (p : Pe) (b : Bl), ds = [dSu (suX q X), .int x, dPe p, .int w, dBl b] ∧ SeOk q X x w p b ∧ r = .ok (dSe q X x w p b)
theorem l_law_session (ds : List PyData) (r : Except Er PyData) (h : F_law_session ds r) : ds.length = 5 := by obtain ⟨_, _, _, _, _, _, rfl, _⟩ := h; rfl
theorem u_law_session {P : PyData → Prop} {R : Er → Prop} {q : Int} {X : Xs} {x w : Int} {p : Pe} {b : Bl} (h : SeOk q X x w p b) (k : P (dSe q X x w p b)) : ∃ r, F_law_session [dSu (suX q X), .int x, dPe p, .int w, dBl b] r ∧ (∀ d, r = .ok d → P d) ∧ (∀ er, r = .error er → R er) := use0 ⟨_, _, _, _, _, _, rfl, h, rfl⟩ k
/-! ### spends -/
def SpOk (q : Int) (p : Pe) (b : Bl) (d : Int) : Prop := Od q ∧ (0 ≤ d ∧ d < q) ∧ (0 ≤ p.n ∧ p.n < q) ∧ (0 ≤ p.a ∧ p.a ≤ 4) ∧ 0 ≤ p.z ∧ p.z ≤ 4
def F_law_spend (ds : List PyData) (r : Except Er PyData) : Prop := ∃ (q : Int) (p : Pe) (b : Bl) (d : Int), ds = [.int q, dPe p, dBl b, .int d] ∧ SpOk q p b d ∧ r = .ok (dSp (spH q p b d))
theorem l_law_spend (ds : List PyData) (r : Except Er PyData) (h : F_law_spend ds r) : ds.length = 4 := by obtain ⟨_, _, _, _, rfl, _⟩ := h; rfl
theorem u_law_spend {P : PyData → Prop} {R : Er → Prop} {q : Int} {p : Pe} {b : Bl} {d : Int} (h : SpOk q p b d) (k : P (dSp (spH q p b d))) : ∃ r, F_law_spend [.int q, dPe p, dBl b, .int d] r ∧ (∀ d, r = .ok d → P d) ∧ (∀ er, r = .error er → R er) := use0 ⟨_, _, _, _, rfl, h, rfl⟩ k
def F_law_in_range (ds : List PyData) (r : Except Er PyData) : Prop := ∃ (S : Su) (b : Bl), ds = [.int S.q, dBl b] ∧ okBl S b = true ∧ r = .ok (.bool true)
theorem l_law_in_range (ds : List PyData) (r : Except Er PyData) (h : F_law_in_range ds r) : ds.length = 2 := by obtain ⟨_, _, rfl, _⟩ := h; rfl
theorem u_law_in_range {P : PyData → Prop} {R : Er → Prop} {S : Su} {b : Bl} (h : okBl S b = true) (k : P (.bool true)) : ∃ r, F_law_in_range [.int S.q, dBl b] r ∧ (∀ d, r = .ok d → P d) ∧ (∀ er, r = .error er → R er) := use0 ⟨_, _, rfl, h, rfl⟩ k
def LeOk (S : Su) (key : Int) (rec : Re) (t : Ti) (sp : Sp) (b : Bl) : Prop := Od S.q ∧ requestM S rec.p rec.o b = .ok rec.c ∧ ticketM S key rec.p rec.o b rec.r = .ok t ∧ spendM S rec.p b sp.d = .ok sp
def F_law_leads (ds : List PyData) (r : Except Er PyData) : Prop := ∃ (S : Su) (key : Int) (rec : Re) (t : Ti) (sp : Sp) (b : Bl), ds = [dSu S, .int key, dRe rec, dTi t, dSp sp, dBl b] ∧ LeOk S key rec t sp b ∧ r = .ok (.bool true)
theorem l_law_leads (ds : List PyData) (r : Except Er PyData) (h : F_law_leads ds r) : ds.length = 6 := by obtain ⟨_, _, _, _, _, _, rfl, _⟩ := h; rfl
theorem u_law_leads {P : PyData → Prop} {R : Er → Prop} {S : Su} {key : Int} {rec : Re} {t : Ti} {sp : Sp} {b : Bl} (h : LeOk S key rec t sp b) (k : P (.bool true)) : ∃ r, F_law_leads [dSu S, .int key, dRe rec, dTi t, dSp sp, dBl b] r ∧ (∀ d, r = .ok d → P d) ∧ (∀ er, r = .error er → R er) := use0 ⟨_, _, _, _, _, _, rfl, h, rfl⟩ k
/-! ### rows -/
structure Ro where
  (p : Pe) (w : Int) (b : Bl)
abbrev reR (q : Int) (X : Xs) (x : Int) (o : Ro) : Re := reH (suX q X) X x o.w o.p (cH q X x o.w o.p o.b) (rH q X x o.w o.p o.b)
abbrev tiR (q : Int) (X : Xs) (x : Int) (o : Ro) : Ti := tiH (suX q X) X x o.w o.p o.b (tH q X x o.w o.p o.b)
abbrev dRo (q : Int) (X : Xs) (x : Int) (o : Ro) : PyData := .tuple [dRe (reR q X x o), dTi (tiR q X x o), dBl o.b]
def RoOk (q : Int) (X : Xs) (o : Ro) : Prop := (0 ≤ o.w ∧ o.w < q) ∧ okPe (suX q X) o.p = true ∧ okBl (suX q X) o.b = true ∧ mu X o.p % q ≠ 0
theorem RoOk.hn {q : Int} {X : Xs} {x : Int} {o : Ro} (h : SuOk (suX q X) X) (hx : x % q ≠ 0) (H : RoOk q X o) : Hn (suX q X) X x o.w o.p (cH q X x o.w o.p o.b) (rH q X x o.w o.p o.b) (tH q X x o.w o.p o.b) o.b := hn_H h hx H.2.1 H.2.2.1 H.2.2.2
def roM (q : Int) (ns : List Int) (k : Nat) : Ro := ⟨persM (ns.drop (2 + 12 * k)) q, nn ns (12 + 12 * k) % q * (if decide (nn ns 1 % 8 > 0) = true then 1 else 0), blM (ns.drop (5 + 12 * k)) q⟩
def rosM (q : Int) (X : Xs) (ns : List Int) : Nat → List Ro
  | 0 => []
  | k + 1 => rosM q X ns k ++ (if E q (mu X (roM q ns k).p) = 1 then [] else [roM q ns k])
theorem rosM_len (q : Int) (X : Xs) (ns : List Int) : ∀ k, (rosM q X ns k).length ≤ k
  | 0 => Nat.le_refl _
  | k + 1 => by
    have ih := rosM_len q X ns k
    unfold rosM
    rw [List.length_append]
    split
    · simp only [List.length_nil]
      omega
    · simp only [List.length_cons, List.length_nil]
      omega
theorem roM_w {q : Int} (G : Gq q) (ns : List Int) (k : Nat) : 0 ≤ (roM q ns k).w ∧ (roM q ns k).w < q := by
  have hm := mod_rng (nn ns (12 + 12 * k)) q G.pos
  have hq := G.pos
  show 0 ≤ nn ns (12 + 12 * k) % q * (if decide (nn ns 1 % 8 > 0) = true then 1 else 0) ∧ nn ns (12 + 12 * k) % q * (if decide (nn ns 1 % 8 > 0) = true then 1 else 0) < q
  split
  · rw [Int.mul_one]
    exact hm
  · rw [Int.mul_zero]
    omega
theorem rosM_ok {q : Int} {X : Xs} {ns : List Int} (G : Gq q) : ∀ {k : Nat} {o : Ro}, o ∈ rosM q X ns k → RoOk q X o
  | 0, _, h => nomatch h
  | k + 1, o, h => by
    unfold rosM at h
    rw [List.mem_append] at h
    rcases h with h | h
    · exact rosM_ok G h
    · split at h
      · cases h
      · rename_i hne
        rw [List.mem_singleton] at h
        subst h
        have hq := G.od.1
        refine ⟨roM_w G ns k, pers_ok _ (S := suX q X) G.pos, bl_ok _ (S := suX q X) hq, fun z => hne ((E_ne_one G).mpr z)⟩
def nRow (ns : List Int) : Nat := (1 + nn ns 0 % 4).toNat
def F_law_sessions (ds : List PyData) (r : List PyData) : Prop := ∃ (q : Int) (X : Xs) (x : Int) (ns : List Int), ds = [dSu (suX q X), .int x, dL ns] ∧ Gq q ∧ (0 ≤ x ∧ x < q) ∧ 60 ≤ ns.length ∧ r = (rosM q X ns (nRow ns)).map (fun o => dRo q X x o)
theorem l_law_sessions (ds : List PyData) (r : List PyData) (h : F_law_sessions ds r) : ds.length = 3 := by obtain ⟨_, _, _, _, rfl, _⟩ := h; rfl
theorem u_law_sessions {P : List PyData → Prop} {q : Int} {X : Xs} {x : Int} {ns : List Int} (h : Gq q ∧ (0 ≤ x ∧ x < q) ∧ 60 ≤ ns.length) (p : P ((rosM q X ns (nRow ns)).map (fun o => dRo q X x o))) : ∃ r, F_law_sessions [dSu (suX q X), .int x, dL ns] r ∧ P r := ⟨_, ⟨_, _, _, _, rfl, h.1, h.2.1, h.2.2, rfl⟩, p⟩
section
variable {K : PySem.W.Frag} {ea : Er → Addr} {W : WX} {e : En} {R : Er → Prop}
/-- ns[a:] -/
theorem vn_slN {P : List PyData → Prop} {te ti : TE} (h : Vl K ea W te e (fun d => ∃ ns : List Int, d = dL ns ∧ Vl K ea W ti e (fun i => ∃ (j : Int) (a : Nat), i = .int j ∧ j = (a : Int) ∧ a ≤ ns.length ∧ P ((ns.drop a).map .int)) R) R) : Vn K ea W (tSl (rSlL K) te (tPart ti) tNoPart) e P R :=
  vn_slL (vl_imp h fun d hd => by
    obtain ⟨ns, rfl, h⟩ := hd
    refine ⟨_, rfl, vo_some (vl_imp h fun i hi => ?_)⟩
    obtain ⟨j, a, rfl, ej, ha, p⟩ := hi
    exact ⟨_, rfl, vo_none (by rw [cut_ns a ej ha]; exact p)⟩)
end
local macro_rules | `(tactic| walk_at "nf21") => `(tactic| show Sa _ _ _ _ ⟨[_, _, _, _, _, _, _, _, _, _, _, _, _, _, _, _, _, _, _, _, _], none⟩ _)
local macro_rules | `(tactic| walk_at "nf6") => `(tactic| show Sa _ _ _ _ ⟨[_, _, _, _, _, _], none⟩ _)
local macro_rules | `(tactic| walk_at "nf7") => `(tactic| show Sa _ _ _ _ ⟨[_, _, _, _, _, _, _], none⟩ _)
local macro_rules | `(tactic| walk_at "nf10") => `(tactic| show Sa _ _ _ _ ⟨[_, _, _, _, _, _, _, _, _, _], none⟩ _)
local macro_rules | `(tactic| walk_at "nf11") => `(tactic| show Sa _ _ _ _ ⟨[_, _, _, _, _, _, _, _, _, _, _], some (3, _)⟩ _)
section
variable {P : Program} {w : World} {K : PySem.W.Frag} {mg : Str → Option Value} {base : Heap} {ea : Er → Addr} {CE : Addr}
/-! ### _law_session -/
abbrev n_law_session : List Str := ["_law_setup_here", "_law_secret", "_law_person_here", "_law_w", "_law_blinding_here", "_law_q", "_law_bases", "_law_p", "_law_mark_here", "_law_offer", "_law_s", "_law_u", "_law_v", "_law_rest", "_law_first", "_law_second", "_law_a1", "_law_b1", "_law_five", "_law_c", "_law_r"]
theorem sc_law_session : FnScope n_law_session ["_law_setup_here", "_law_secret", "_law_person_here", "_law_w", "_law_blinding_here"] (defScope slaw_session) := ⟨rfl, rfl, rfl, by decide +kernel, rfl, by decide +kernel, by decide +kernel⟩
theorem ok_law_session (T : Tx K mg ea CE) (c_law_power : Callee P w K mg base CX0 1 "_law_power" (spF K ea F_law_power)) (c_law_product : Callee P w K mg base CX0 2 "_law_product" (spF K ea F_law_product)) (c_law_mark : Callee P w K mg base CX0 3 "_law_mark" (spF K ea F_law_mark)) (c_law_challenge : Callee P w K mg base CX0 1 "_law_challenge" (spF K ea F_law_challenge)) (c_law_quotient : Callee P w K mg base CX0 2 "_law_quotient" (spF K ea F_law_quotient)) {f : Addr} {fd : FuncData} (G : FnP K "_law_session" slaw_session f fd) (hm : mg "_law_session" = some (.ref f)) : Callee P w K mg base CX0 4 "_law_session" (spF K ea F_law_session) := by
  refine okV (k := 3) G hm sc_law_session ?len (fun _ _ _ _ _ _ us hl => match us, hl with | [_, _, _, _, _], _ => rfl) fun cdv A outer s H _E hr => ?_
  case len => exact l_law_session
  refine ⟨_, (pss_cons (ps_asg (pv 0) (pg_tup rfl (pgs_cons (pg_name (i := 5) sc_law_session.nd rfl (.inl rfl)) (pgs_cons (pg_name (i := 6) sc_law_session.nd rfl (.inl rfl)) pgs_nil))))
      (pss_cons (ps_set (i := 7) sc_law_session.nd rfl (.inl rfl) (pe_op op_add (pe_op op_mul pe_int (pv 5)) pe_int))
      (pss_cons (ps_set (i := 8) sc_law_session.nd rfl (.inl rfl) (c_law_mark.c0 (W := W0) hr rfl (pa_cons (pv 0) (pa_cons (pv 2) pa_nil))))
      (pss_cons (ps_set (i := 9) sc_law_session.nd rfl (.inl rfl) (pe_tup (pa_cons (c_law_power.c0 (W := W0) (hr.mono (by decide)) rfl (pa_cons (pv 7) (pa_cons (pv 8) (pa_cons (pv 1) pa_nil)))) (pa_cons (c_law_power.c0 (W := W0) (hr.mono (by decide)) rfl (pa_cons (pv 7) (pa_cons (pe_ix (ixT (K := K) rfl) (pv 6) pe_int (fun _ _ => rfl)) (pa_cons (pv 3) pa_nil)))) (pa_cons (c_law_power.c0 (W := W0) (hr.mono (by decide)) rfl (pa_cons (pv 7) (pa_cons (pv 8) (pa_cons (pv 3) pa_nil)))) pa_nil)))))
      (pss_cons (ps_asg (pv 4) (pg_tup rfl (pgs_cons (pg_name (i := 10) sc_law_session.nd rfl (.inl rfl)) (pgs_cons (pg_name (i := 11) sc_law_session.nd rfl (.inl rfl)) (pgs_cons (pg_name (i := 12) sc_law_session.nd rfl (.inl rfl)) (pgs_cons (pg_name (i := 13) sc_law_session.nd rfl (.inl rfl)) pgs_nil))))))
      (pss_cons (ps_set (i := 14) sc_law_session.nd rfl (.inl rfl) (c_law_power.c0 (W := W0) (hr.mono (by decide)) rfl (pa_cons (pv 7) (pa_cons (pv 8) (pa_cons (pv 10) pa_nil)))))
      (pss_cons (ps_set (i := 15) sc_law_session.nd rfl (.inl rfl) (c_law_product.c0 (W := W0) (hr.mono (by decide)) rfl (pa_cons (pv 7) (pa_cons (pe_slice sl_tupA (pv 6) (po_some pe_int) po_none) (pa_cons (pv 13) pa_nil)))))
      (pss_cons (ps_set (i := 16) sc_law_session.nd rfl (.inl rfl) (pe_op op_mod (pe_callTy call_int1 rfl T.fint boot_int (pa_cons (pe_op op_mul (c_law_power.c0 (W := W0) (hr.mono (by decide)) rfl (pa_cons (pv 7) (pa_cons (pe_ix (ixT (K := K) rfl) (pv 9) pe_int (fun _ _ => rfl)) (pa_cons (pv 11) pa_nil)))) (c_law_power.c0 (W := W0) (hr.mono (by decide)) rfl (pa_cons (pv 7) (pa_cons (pe_ix (ixT (K := K) rfl) (pv 6) pe_int (fun _ _ => rfl)) (pa_cons (pv 12) pa_nil))))) pa_nil)) (pv 7)))
      (pss_cons (ps_set (i := 17) sc_law_session.nd rfl (.inl rfl) (pe_op op_mod (pe_callTy call_int1 rfl T.fint boot_int (pa_cons (pe_op op_mul (c_law_power.c0 (W := W0) (hr.mono (by decide)) rfl (pa_cons (pv 7) (pa_cons (pe_ix (ixT (K := K) rfl) (pv 9) pe_int (fun _ _ => rfl)) (pa_cons (pe_op op_mod (pe_callTy call_int1 rfl T.fint boot_int (pa_cons (pe_op op_mul (pv 10) (pv 11)) pa_nil)) (pv 5)) pa_nil)))) (c_law_power.c0 (W := W0) (hr.mono (by decide)) rfl (pa_cons (pv 7) (pa_cons (pv 14) (pa_cons (pv 12) pa_nil))))) pa_nil)) (pv 7)))
      (pss_cons (ps_set (i := 18) sc_law_session.nd rfl (.inl rfl) (pe_tup (pa_cons (pv 14) (pa_cons (pv 15) (pa_cons (c_law_power.c0 (W := W0) (hr.mono (by decide)) rfl (pa_cons (pv 7) (pa_cons (pe_ix (ixT (K := K) rfl) (pv 9) pe_int (fun _ _ => rfl)) (pa_cons (pv 10) pa_nil)))) (pa_cons (pv 16) (pa_cons (pv 17) pa_nil)))))))
      (pss_cons (ps_set (i := 19) sc_law_session.nd rfl (.inl rfl) (c_law_quotient.c0 (W := W0) (hr.mono (by decide)) rfl (pa_cons (pv 5) (pa_cons (c_law_challenge.c0 (W := W0) (hr.mono (by decide)) rfl (pa_cons (pv 5) (pa_cons (pv 18) pa_nil))) (pa_cons (pv 11) pa_nil)))))
      (pss_cons (ps_set (i := 20) sc_law_session.nd rfl (.inl rfl) (pe_op op_mod (pe_callTy call_int1 rfl T.fint boot_int (pa_cons (pe_op op_add (pv 3) (pe_op op_mul (pv 19) (pv 1))) pa_nil)) (pv 5)))
      (pss_one (ps_ret (pe_tup (pa_cons (pv 9) (pa_cons (pv 19) (pa_cons (pv 20) (pa_cons (pe_op op_catA (pv 18) (pe_tup (pa_cons (pe_op op_mod (pe_callTy call_int1 rfl T.fint boot_int (pa_cons (pe_op op_add (pe_op op_mul (pv 11) (pv 20)) (pv 12)) pa_nil)) (pv 5)) pa_nil))) pa_nil))))))))))))))))))), fun ds r hF => ?_⟩
  obtain ⟨q, X, x, w0, p, b, rfl, ⟨G, ⟨hx0, hx1⟩, ⟨hw0, hw1⟩, hp, hb⟩, rfl⟩ := hF
  have hq1 := G.od.1
  have hq2 := G.od.2
  obtain ⟨hpn, hpa, hpz⟩ := okPe_inv hp
  obtain ⟨bs, bu, bv, b0, b1, b2, b3, _, bun⟩ := okBl_inv hb
  have bs0 : b.s < q := bs.2
  have bu0 : b.u < q := bu.2
  have er : ∀ k, CMul (E q k) (E q 0) → True := fun _ _ => trivial
  have cm : ∀ j k, CMul (E q j) (E q k) := fun j k => by
    have := E_rng G j
    exact .inl ⟨by omega, by omega⟩
  refine sa_seq ?_
  refine sa_asg (vl_var rfl (ga_tup rfl (gs_name (gs_name (gs_nil ?_)))))
  walk_at "nf21"
  refine sa_seq ?_
  refine sa_asg (vl_op (vl_op (vl_int (vl_var rfl (op_I ?_ (vl_int (op_I0 (ga_name (.inl rfl) ?_))))))))
  · exact .inl ⟨by decide, by decide⟩
  walk_at "nf21"
  refine sa_seq ?_
  refine sa_asg (vl_call (va_cons (vl_var rfl (va_cons (vl_var rfl (va_nil (u_law_mark ⟨G, hpn.1, hpa.1, hpz.1⟩ (ga_name (.inl rfl) ?_))))))))
  walk_at "nf21"
  refine sa_seq ?_
  refine sa_asg (vl_tup (va_cons (vl_call (va_cons (vl_var rfl (va_cons (vl_var rfl (va_cons (vl_var rfl (va_nil (u_law_powerE G rfl hx0 (va_cons (vl_call (va_cons (vl_var rfl (va_cons (vl_op (vl_var rfl (vl_int (op_ixT rfl (va_cons (vl_var rfl (va_nil (u_law_powerE G rfl hw0 (va_cons (vl_call (va_cons (vl_var rfl (va_cons (vl_var rfl (va_cons (vl_var rfl (va_nil (u_law_powerE G rfl hw0 (va_nil ⟨fl_ rfl, ln_ rfl, (ga_name (.inl rfl) ?_)⟩)))))))))))))))))))))))))))))))))))
  walk_at "nf21"
  refine sa_seq ?_
  refine sa_asg (vl_var rfl (ga_tup rfl (gs_name (gs_name (gs_name (gs_name (gs_nil ?_)))))))
  walk_at "nf21"
  refine sa_seq ?_
  refine sa_asg (vl_call (va_cons (vl_var rfl (va_cons (vl_var rfl (va_cons (vl_var rfl (va_nil (u_law_powerE G rfl bs.1 (ga_name (.inl rfl) ?_))))))))))
  walk_at "nf21"
  refine sa_seq ?_
  refine sa_asg (vl_call (va_cons (vl_var rfl (va_cons (vl_slT (vl_var rfl ⟨_, rfl, (vo_some (vl_int ⟨_, rfl, (vo_none (va_cons (vl_var rfl (va_nil (u_law_product (q := q) (a := X.e0) (b := X.e1) (c := X.e2) (d := X.e3) (x := b.x0) (y := b.x1) (z := b.x2) (w := b.x3) ⟨G, b0.1, b1.1, b2.1, b3.1⟩ (ga_name (.inl rfl) ?_))))))⟩))⟩))))))
  walk_at "nf21"
  refine sa_seq ?_
  refine sa_asg (vl_op (vl_int1 (vl_op (vl_call (va_cons (vl_var rfl (va_cons (vl_op (vl_var rfl (vl_int (op_ixT rfl (va_cons (vl_var rfl (va_nil (u_law_powerE G rfl bu.1 (vl_call (va_cons (vl_var rfl (va_cons (vl_op (vl_var rfl (vl_int (op_ixT rfl (va_cons (vl_var rfl (va_nil (u_law_powerE G rfl bv.1 (op_I (cm _ _) (.inl ⟨_, rfl, (vl_var rfl (op_I ?_ (ga_name (.inl rfl) ?_)))⟩)))))))))))))))))))))))))))))
  · show 0 < 2 * q + 1
    omega
  rw [E_mul G]
  walk_at "nf21"
  refine sa_seq ?_
  have hsu := mod_rng (b.s * b.u) q G.pos
  have eb : E q (mu X p * w0 * (b.s * b.u % q)) * E q (mu X p * b.s * b.v) % (2 * q + 1) = E q (mu X p * w0 * (b.s * b.u) + mu X p * b.s * b.v) := by
    rw [E_mul G]
    refine (E_cl G).mpr ?_
    rw [cl_add, cl_mul _ (b.s * b.u % q), cl_mod, ← cl_mul, ← cl_add]
  refine sa_asg (vl_op (vl_int1 (vl_op (vl_call (va_cons (vl_var rfl (va_cons (vl_op (vl_var rfl (vl_int (op_ixT rfl (va_cons (vl_op (vl_int1 (vl_op (vl_var rfl (vl_var rfl (op_I ?_ (.inl ⟨_, rfl, (vl_var rfl (op_I ?_ (va_nil (u_law_powerE G rfl hsu.1 (vl_call (va_cons (vl_var rfl (va_cons (vl_var rfl (va_cons (vl_var rfl (va_nil (u_law_powerE G rfl bv.1 (op_I (cm _ _) (.inl ⟨_, rfl, (vl_var rfl (op_I ?_ (ga_name (.inl rfl) ?_)))⟩)))))))))))))))⟩)))))))))))))))))))
  · exact .inl ⟨by omega, by omega⟩
  · show 0 < q
    omega
  · show 0 < 2 * q + 1
    omega
  rw [eb]
  walk_at "nf21"
  refine sa_seq ?_
  refine sa_asg (vl_tup (va_cons (vl_var rfl (va_cons (vl_var rfl (va_cons (vl_call (va_cons (vl_var rfl (va_cons (vl_op (vl_var rfl (vl_int (op_ixT rfl (va_cons (vl_var rfl (va_nil (u_law_powerE G rfl bs.1 (va_cons (vl_var rfl (va_cons (vl_var rfl (va_nil ⟨fl_ rfl, ln_ rfl, (ga_name (.inl rfl) ?_)⟩)))))))))))))))))))))))
  walk_at "nf21"
  refine sa_seq ?_
  refine sa_asg (vl_call (va_cons (vl_var rfl (va_cons (vl_call (va_cons (vl_var rfl (va_cons (vl_var rfl (va_nil (u_law_challenge (f := fiH (suX q X) X x w0 p b) ?_ (va_cons (vl_var rfl (va_nil (u_law_quotient ?_ (ga_name (.inl rfl) ?_))))))))))))))))
  · refine ⟨by omega, sm5 fun y hy => ?_⟩
    have se : ∀ k, 0 ≤ E q k ∧ E q k < 8192 := fun k => by
      have := E_rng G k
      omega
    unfold Fi.l at hy
    simp only [List.mem_cons, List.not_mem_nil, or_false] at hy
    rcases hy with rfl | rfl | rfl | rfl | rfl <;> exact se _
  · exact ⟨by show 2 ≤ q; omega, by show q ≤ 4096; omega⟩
  walk_at "nf21"
  refine sa_seq ?_
  refine sa_asg (vl_op (vl_int1 (vl_op (vl_var rfl (vl_op (vl_var rfl (vl_var rfl (op_I ?_ (op_I0 (.inl ⟨_, rfl, (vl_var rfl (op_I ?_ (ga_name (.inl rfl) ?_)))⟩))))))))))
  · exact .inr ⟨by omega, by omega⟩
  · show 0 < q
    omega
  walk_at "nf21"
  refine sa_ret (vl_tup (va_cons (vl_var rfl (va_cons (vl_var rfl (va_cons (vl_var rfl (va_cons (vl_op (vl_var rfl (vl_tup (va_cons (vl_op (vl_int1 (vl_op (vl_op (vl_var rfl (vl_var rfl (op_I ?_ (vl_var rfl (op_I0 (.inl ⟨_, rfl, (vl_var rfl (op_I ?_ (va_nil ⟨fl_ rfl, ln_ rfl, (op_catD (ln_ rfl) (va_nil ⟨fl_ rfl, ln_ rfl, ?_⟩))⟩)))⟩))))))))))))))))))))))
  · exact .inl ⟨by omega, by omega⟩
  · show 0 < q
    omega
  · rfl
/-! ### _law_spend -/
abbrev n_law_spend : List Str := ["_law_q", "_law_person_here", "_law_blinding_here", "_law_d", "_law_exponents", "_law_k"]
theorem sc_law_spend : FnScope n_law_spend ["_law_q", "_law_person_here", "_law_blinding_here", "_law_d"] (defScope slaw_spend) := ⟨rfl, rfl, rfl, by decide +kernel, rfl, by decide +kernel, by decide +kernel⟩
theorem ok_law_spend (T : Tx K mg ea CE)  {f : Addr} {fd : FuncData} (G : FnP K "_law_spend" slaw_spend f fd) (hm : mg "_law_spend" = some (.ref f)) : Callee P w K mg base CX0 1 "_law_spend" (spF K ea F_law_spend) := by
  refine okV (k := 0) G hm sc_law_spend ?len (fun _ _ _ _ _ _ us hl => match us, hl with | [_, _, _, _], _ => rfl) fun cdv A outer s H _E hr => ?_
  case len => exact l_law_spend
  refine ⟨_, (pss_cons (ps_set (i := 4) sc_law_spend.nd rfl (.inr rfl) (pe_op op_catA (pe_tup (pa_cons pe_int pa_nil)) (pv 1)))
      (pss_one (ps_ret (pe_tup (pa_cons (pv 3) (pa_cons (pe_callTy call_tuple_of rfl T.ftuple boot_tuple (pa_cons (pe_lc (own := [("_law_k", 5)]) (g := gName 5) (tt := tYes) rfl sc_law_spend.nd (pi_range1 rfl T.frange (pa_cons pe_int pa_nil)) (blkOk_by (N := n_law_spend) (sc := defScope slaw_spend) (by decide +kernel)) (fun _ _ _ _ _ => (pg_name (i := 5) sc_law_spend.nd rfl (Or.inl rfl) (hf := .inr rfl))) (fun _ _ _ _ _ => pts_nil) (fun _ _ _ _ _ => (pe_op op_mod (pe_callTy call_int1 rfl T.fint boot_int (pa_cons (pe_op op_add (pe_ix (ixT (K := K) rfl) (pe_ix (ixT (K := K) rfl) (pv 2) pe_int (fun _ _ => rfl)) (pv 5) (fun _ _ => rfl)) (pe_op op_mul (pe_op op_mul (pv 3) (pe_ix (ixT (K := K) rfl) (pv 2) pe_int (fun _ _ => rfl))) (pe_ix (ixT (K := K) rfl) (pv 4) (pv 5) (fun _ _ => rfl)))) pa_nil)) (pv 0)))) pa_nil)) pa_nil)))))), fun ds r hF => ?_⟩
  obtain ⟨q, p, b, d, rfl, ⟨hq, hd, hn, ha, hz⟩, rfl⟩ := hF
  have hq1 := hq.1
  have hq2 := hq.2
  refine sa_seq ?_
  refine sa_asg (vl_op (vl_tup (va_cons (vl_int (va_nil ⟨fl_ rfl, ln_ rfl, (vl_var rfl (op_catD (ln_ rfl) (ga_name (.inl rfl) ?_)))⟩)))))
  walk_at "nf6"
  refine sa_ret (vl_tup (va_cons (vl_var rfl (va_cons (vl_tupOf (vl_vn (vn_lc1 (iw_range (vl_int ⟨_, rfl, by decide, by decide, ⟨[.int ((b.x0 + d * b.s * 1) % q), .int ((b.x1 + d * b.s * p.n) % q), .int ((b.x2 + d * b.s * p.a) % q), .int ((b.x3 + d * b.s * p.z) % q)], rfl, ln_ rfl, (.inl ⟨_, rfl, (va_nil ⟨fl_ rfl, ln_ rfl, ?_⟩)⟩), fun k dd r hd0 hr' => ?_⟩⟩)))))))))
  · rfl
  · have go : ∃ (j : Int) (x y : Int), dd = .int j ∧ r = .int ((x + d * b.s * y) % q) ∧ atI [PyData.int b.x0, .int b.x1, .int b.x2, .int b.x3] j = some (.int x) ∧ atI [PyData.int 1, .int p.n, .int p.a, .int p.z] j = some (.int y) ∧ -(2 ^ 64) < y ∧ y < 2 ^ 64 := match k, hd0, hr' with
      | 0, hd, hr' => ⟨0, b.x0, 1, (Option.some.inj hd).symm, (Option.some.inj hr').symm, rfl, rfl, by omega, by omega⟩
      | 1, hd, hr' => ⟨1, b.x1, p.n, (Option.some.inj hd).symm, (Option.some.inj hr').symm, rfl, rfl, by omega, by omega⟩
      | 2, hd, hr' => ⟨2, b.x2, p.a, (Option.some.inj hd).symm, (Option.some.inj hr').symm, rfl, rfl, by omega, by omega⟩
      | 3, hd, hr' => ⟨3, b.x3, p.z, (Option.some.inj hd).symm, (Option.some.inj hr').symm, rfl, rfl, by omega, by omega⟩
      | k + 4, hd, _ => nomatch hd
    obtain ⟨j, x, y, rfl, rfl, ex, ey, y0, y1⟩ := go
    refine ⟨rfl, rfl, vl_op (vl_int1 (vl_op (vl_op (vl_op (vl_var rfl (vl_int (op_ixT rfl (vl_var rfl (op_ixT ex (vl_op (vl_op (vl_var rfl (vl_op (vl_var rfl (vl_int (op_ixT rfl (op_I ?_ (vl_op (vl_var rfl (vl_var rfl (op_ixT ey (op_I ?_ (op_I0 (.inl ⟨_, rfl, (vl_var rfl (op_I ?_ rfl))⟩))))))))))))))))))))))))⟩
    · exact .inl ⟨by omega, by omega⟩
    · exact .inr ⟨y0, y1⟩
    · show 0 < q
      omega
/-! ### _law_in_range -/
abbrev n_law_in_range : List Str := ["_law_q", "_law_blinding_here", "_law_s", "_law_u", "_law_v", "_law_rest", "_law_value"]
theorem sc_law_in_range : FnScope n_law_in_range ["_law_q", "_law_blinding_here"] (defScope slaw_in_range) := ⟨rfl, rfl, rfl, by decide +kernel, rfl, by decide +kernel, by decide +kernel⟩
theorem ok_law_in_range (T : Tx K mg ea CE)  {f : Addr} {fd : FuncData} (G : FnP K "_law_in_range" slaw_in_range f fd) (hm : mg "_law_in_range" = some (.ref f)) : Callee P w K mg base CX0 1 "_law_in_range" (spF K ea F_law_in_range) := by
  refine okV (k := 0) G hm sc_law_in_range ?len (fun _ _ _ _ _ _ us hl => match us, hl with | [_, _], _ => rfl) fun cdv A outer s H _E hr => ?_
  case len => exact l_law_in_range
  refine ⟨_, (pss_cons (ps_asg (pv 1) (pg_tup rfl (pgs_cons (pg_name (i := 2) sc_law_in_range.nd rfl (.inl rfl)) (pgs_cons (pg_name (i := 3) sc_law_in_range.nd rfl (.inl rfl)) (pgs_cons (pg_name (i := 4) sc_law_in_range.nd rfl (.inl rfl)) (pgs_cons (pg_name (i := 5) sc_law_in_range.nd rfl (.inl rfl)) pgs_nil))))))
      (pss_cons (ps_for PassesOwn.never rfl (pi_tup (pe_op op_catA (pe_tup (pa_cons (pv 2) (pa_cons (pv 3) (pa_cons (pv 4) pa_nil)))) (pv 5))) (pg_name (i := 6) sc_law_in_range.nd rfl (.inl rfl)) (pss_one (ps_if (PW.pt (pw_or (pt_val (pe_callB call_isi rfl T.fisinstance boot_isinstance (pa_cons (pv 6) (pa_cons (pe_bltn (v := .ty "bool") rfl T.fbool boot_bool rfl) pa_nil)))) (pw_or1 (pt_not (pt_chain op_le op_lt pe_int (pv 6) (pv 0)))))) (pss_one (ps_ret pe_bl)) pss_nil)))
      (pss_one (ps_ret (pe_and (pe_cmpR op_gt (pv 2) pe_int (nomark _)) (pe_and (pe_cmpR op_gt (pv 3) pe_int (nomark _)) (pe_one (pe_cmpR op_eq (pe_callB call_len_seq rfl T.flen boot_len (pa_cons (pv 5) pa_nil)) pe_int (nomark _))))))))), fun ds r hF => ?_⟩
  obtain ⟨S, b, rfl, hb, rfl⟩ := hF
  obtain ⟨bs, bu, bv, b0, b1, b2, b3, bsn, bun⟩ := okBl_inv hb
  refine sa_seq ?_
  refine sa_asg (vl_var rfl (ga_tup rfl (gs_name (gs_name (gs_name (gs_name (gs_nil ?_)))))))
  walk_at "nf7"
  refine sa_seq ?_
  refine sa_for (iw_tup (vl_op (vl_tup (va_cons (vl_var rfl (va_cons (vl_var rfl (va_cons (vl_var rfl (va_nil ⟨fl_ rfl, ln_ rfl, (vl_var rfl (op_catD (ln_ rfl) ⟨_, rfl, ⟨fun i e => ∃ y, e = ⟨[some (.int S.q), some (dBl b), some (.int b.s), some (.int b.u), some (.int b.v), some (.tuple [.int b.x0, .int b.x1, .int b.x2, .int b.x3]), y], none⟩, ⟨_, rfl⟩, fun i d e hd hI => ?_, fun e hI => ?_⟩⟩))⟩))))))))))
  · obtain ⟨y, rfl⟩ := hI
    have go : ∃ v : Int, d = .int v ∧ 0 ≤ v ∧ v < S.q := match i, hd with
      | 0, hd => ⟨_, (Option.some.inj hd).symm, bs⟩
      | 1, hd => ⟨_, (Option.some.inj hd).symm, bu⟩
      | 2, hd => ⟨_, (Option.some.inj hd).symm, bv⟩
      | 3, hd => ⟨_, (Option.some.inj hd).symm, b0⟩
      | 4, hd => ⟨_, (Option.some.inj hd).symm, b1⟩
      | 5, hd => ⟨_, (Option.some.inj hd).symm, b2⟩
      | 6, hd => ⟨_, (Option.some.inj hd).symm, b3⟩
      | k + 7, hd => nomatch hd
    obtain ⟨v, rfl, v0, v1⟩ := go
    refine ga_name (.inl rfl) ?_
    walk_at "nf7"
    refine sa_if (vt_or (vt_B (vl_isb T.isb (vl_var rfl ⟨_, rfl, ⟨_, rfl, ⟨fun h => (vt_not (vt_test (vl_chain (vl_int ⟨_, rfl, (vl_var rfl ⟨_, rfl, fun h => (vl_var rfl ⟨_, rfl, ⟨_, rfl, ⟨fun h => ?_, fun h => ?_⟩⟩⟩), fun h => ?_⟩)⟩)))), (fun h => nomatch h)⟩⟩⟩))))
    · have h' : ¬ v < S.q := by simpa using h
      omega
    · exact sa_next ⟨_, rfl⟩
    · have h' : ¬ 0 ≤ v := by simpa using h
      omega
  · obtain ⟨y, rfl⟩ := hI
    refine sa_ret (vl_and (vl_op (vl_var rfl (vl_int (op_B0 ⟨_, rfl, fun h => (vl_and (vl_op (vl_var rfl (vl_int (op_B0 ⟨_, rfl, fun h => (vl_op (vl_len (vl_var rfl (.inr (.inl ⟨_, rfl, (vl_int (op_eqI rfl))⟩))))), fun h => ?_⟩))))), fun h => ?_⟩)))))
    · have h' : ¬ b.u > 0 := by simpa using h
      omega
    · have h' : ¬ b.s > 0 := by simpa using h
      omega
/-! ### _law_leads -/
abbrev n_law_leads : List Str := ["_law_setup_here", "_law_key", "_law_record", "_law_ticket", "_law_spend_here", "_law_blinding_here", "_law_person_here", "_law_offer", "_law_c", "_law_r"]
theorem sc_law_leads : FnScope n_law_leads ["_law_setup_here", "_law_key", "_law_record", "_law_ticket", "_law_spend_here", "_law_blinding_here"] (defScope slaw_leads) := ⟨rfl, rfl, rfl, by decide +kernel, rfl, by decide +kernel, by decide +kernel⟩
theorem ok_law_leads (T : Tx K mg ea CE) (c_request_of : Callee P w K mg base (L2.CX P w) 9 "request_of" (spF K ea F_request_of)) (c_ticket_of : Callee P w K mg base (L2.CX P w) 9 "ticket_of" (spF K ea F_ticket_of)) (c_spend_of : Callee P w K mg base (L2.CX P w) 4 "spend_of" (spF K ea F_spend_of)) {f : Addr} {fd : FuncData} (G : FnP K "_law_leads" slaw_leads f fd) (hm : mg "_law_leads" = some (.ref f)) : Callee P w K mg base CX0 10 "_law_leads" (spF K ea F_law_leads) := by
  refine okV (k := 9) G hm sc_law_leads ?len (fun _ _ _ _ _ _ us hl => match us, hl with | [_, _, _, _, _, _], _ => rfl) fun cdv A outer s H _E hr => ?_
  case len => exact l_law_leads
  refine ⟨_, (pss_cons (ps_asg (pv 2) (pg_tup rfl (pgs_cons (pg_name (i := 6) sc_law_leads.nd rfl (.inl rfl)) (pgs_cons (pg_name (i := 7) sc_law_leads.nd rfl (.inl rfl)) (pgs_cons (pg_name (i := 8) sc_law_leads.nd rfl (.inl rfl)) (pgs_cons (pg_name (i := 9) sc_law_leads.nd rfl (.inl rfl)) pgs_nil))))))
      (pss_cons (ps_try_thru0 (pss_one (ps_if (PW.pt (pw_or (pt_cmpR op_ne (c_request_of.cN hr rfl (pa_cons (pv 0) (pa_cons (pv 6) (pa_cons (pv 7) (pa_cons (pv 5) pa_nil))))) (pv 8) (nomark _)) (pw_or1 (pt_cmpR (op_neD (hu64 hr)) (c_ticket_of.cN hr rfl (pa_cons (pv 0) (pa_cons (pv 1) (pa_cons (pv 6) (pa_cons (pv 7) (pa_cons (pv 5) (pa_cons (pv 9) pa_nil))))))) (pv 3) (nomark _))))) (pss_one (ps_ret pe_bl)) pss_nil)))
      (pss_one (ps_ret (pe_cmpR (op_eqD (hu64 hr)) (c_spend_of.cN (hr.mono (by decide)) rfl (pa_cons (pv 0) (pa_cons (pv 6) (pa_cons (pv 5) (pa_cons (pe_ix (ixT (K := K) rfl) (pv 4) pe_int (fun _ _ => rfl)) pa_nil))))) (pv 4) (nomark _)))))), fun ds r hF => ?_⟩
  obtain ⟨S, key, rec, t, sp, b, rfl, ⟨hq, hreq, htk, hsp⟩, rfl⟩ := hF
  refine sa_seq ?_
  refine sa_asg (vl_var rfl (ga_tup rfl (gs_name (gs_name (gs_name (gs_name (gs_nil ?_)))))))
  walk_at "nf10"
  refine sa_seq ?_
  refine sa_if (vt_or (vt_test (vl_op (vl_call (va_cons (vl_var rfl (va_cons (vl_var rfl (va_cons (vl_var rfl (va_cons (vl_var rfl (va_nil (u_request_of hq (fun v2 hv2 => (vl_var rfl (op_neI ⟨_, rfl, ⟨fun h => (vt_test (vl_op (vl_call (va_cons (vl_var rfl (va_cons (vl_var rfl (va_cons (vl_var rfl (va_cons (vl_var rfl (va_cons (vl_var rfl (va_cons (vl_var rfl (va_nil (u_ticket_of hq (fun v1 hv1 => (vl_var rfl (op_neDt rfl rfl (sh_Ti _) (sh_Ti _) ⟨_, rfl, ⟨fun h => ?_, fun h => ?_⟩⟩))) (fun er he => ?_)))))))))))))))))), fun h => ?_⟩⟩))) (fun er he => ?_)))))))))))))))
  · rw [htk] at hv1
    cases hv1
    rw [eqv_Ti, decide_eq_true rfl] at h
    cases h
  · refine sa_next ?_
    refine sa_ret (vl_op (vl_call (va_cons (vl_var rfl (va_cons (vl_var rfl (va_cons (vl_var rfl (va_cons (vl_op (vl_var rfl (vl_int (op_ixT rfl (va_nil (u_spend_of hq (fun v3 hv3 => (vl_var rfl (op_eqDt rfl rfl (sh_Sp _) (sh_Sp _) ?_))) (fun er he => ?_))))))))))))))))
    · rw [hsp] at hv3
      cases hv3
      rw [eqv_Sp, decide_eq_true rfl]
    · rw [hsp] at he
      cases he
  · rw [htk] at he
    cases he
  · rw [hreq] at hv2
    cases hv2
    simp at h
  · rw [hreq] at he
    cases he
/-! ### _law_sessions -/
abbrev n_law_sessions : List Str := ["_law_setup_here", "_law_secret", "_law_numbers_here", "_law_rows", "_law_k", "_law_person_here", "_law_blinding_here", "_law_offer", "_law_c", "_law_r", "_law_ticket"]
theorem sc_law_sessions : FnScope n_law_sessions ["_law_setup_here", "_law_secret", "_law_numbers_here"] (defScope slaw_sessions) := ⟨rfl, rfl, rfl, by decide +kernel, rfl, by decide +kernel, by decide +kernel⟩
theorem ok_law_sessions (T : Tx K mg ea CE) (c_law_person : Callee P w K mg base CX0 1 "_law_person" (spF K ea F_law_person)) (c_law_mark : Callee P w K mg base CX0 3 "_law_mark" (spF K ea F_law_mark)) (c_law_blinding : Callee P w K mg base CX0 1 "_law_blinding" (spF K ea F_law_blinding)) (c_law_session : Callee P w K mg base CX0 4 "_law_session" (spF K ea F_law_session)) {f : Addr} {fd : FuncData} (G : FnP K "_law_sessions" slaw_sessions f fd) (hm : mg "_law_sessions" = some (.ref f)) : Callee P w K mg base CX0 5 "_law_sessions" (spN K F_law_sessions) := by
  refine okN (ea := ea) (k := 4) G hm sc_law_sessions ?len (fun _ _ _ _ _ _ us hl => match us, hl with | [_, _, _], _ => rfl) fun cdv A outer s H _E hr => ?_
  case len => exact l_law_sessions
  refine ⟨_, (pss_cons (ps_set (i := 3) sc_law_sessions.nd rfl (.inl rfl) (pe_lst pa_nil))
      (pss_cons (ps_for PassesOwn.never rfl (pi_range1 rfl T.frange (pa_cons (pe_op op_add pe_int (pe_op op_mod (pe_callTy call_int1 rfl T.fint boot_int (pa_cons (pe_ix (ixL (K := K) rfl) (pv 2) pe_int (fun _ _ => rfl)) pa_nil)) pe_int)) pa_nil)) (pg_name (i := 4) sc_law_sessions.nd rfl (.inl rfl)) (pss_cons (ps_set (i := 5) sc_law_sessions.nd rfl (.inl rfl) (c_law_person.c0 (W := W0) (hr.mono (by decide)) rfl (pa_cons (pe_slice sl_list (pv 2) (po_some (pe_op op_add pe_int (pe_op op_mul pe_int (pv 4)))) po_none) (pa_cons (pv 0) pa_nil))))
      (pss_cons (ps_set (i := 6) sc_law_sessions.nd rfl (.inl rfl) (c_law_blinding.c0 (W := W0) (hr.mono (by decide)) rfl (pa_cons (pe_slice sl_list (pv 2) (po_some (pe_op op_add pe_int (pe_op op_mul pe_int (pv 4)))) po_none) (pa_cons (pe_ix (ixT (K := K) rfl) (pv 0) pe_int (fun _ _ => rfl)) pa_nil))))
      (pss_one (ps_if (pt_cmpR op_ne (c_law_mark.c0 (W := W0) (hr.mono (by decide)) rfl (pa_cons (pv 0) (pa_cons (pv 5) pa_nil))) pe_int (nomark _)) (pss_cons (ps_asg (c_law_session.c0 (W := W0) hr rfl (pa_cons (pv 0) (pa_cons (pv 1) (pa_cons (pv 5) (pa_cons (pe_op op_mul (pe_op op_mod (pe_callTy call_int1 rfl T.fint boot_int (pa_cons (pe_ix (ixL (K := K) rfl) (pv 2) (pe_op op_add pe_int (pe_op op_mul pe_int (pv 4))) (fun _ _ => rfl)) pa_nil)) (pe_ix (ixT (K := K) rfl) (pv 0) pe_int (fun _ _ => rfl))) (pe_callTy call_int1 rfl T.fint boot_int (pa_cons (pe_cmpR op_gt (pe_op op_mod (pe_callTy call_int1 rfl T.fint boot_int (pa_cons (pe_ix (ixL (K := K) rfl) (pv 2) pe_int (fun _ _ => rfl)) pa_nil)) pe_int) pe_int (nomark _)) pa_nil))) (pa_cons (pv 6) pa_nil)))))) (pg_tup rfl (pgs_cons (pg_name (i := 7) sc_law_sessions.nd rfl (.inl rfl)) (pgs_cons (pg_name (i := 8) sc_law_sessions.nd rfl (.inl rfl)) (pgs_cons (pg_name (i := 9) sc_law_sessions.nd rfl (.inl rfl)) (pgs_cons (pg_name (i := 10) sc_law_sessions.nd rfl (.inl rfl)) pgs_nil))))))
      (pss_one (ps_expr (pe_bm PySem.F.plainAttrs_list PySem.F.slot_list_append PySem.F.type_list_append mt_append (pv 3) (pa_cons (pe_tup (pa_cons (pe_tup (pa_cons (pv 5) (pa_cons (pv 7) (pa_cons (pv 8) (pa_cons (pv 9) pa_nil))))) (pa_cons (pv 10) (pa_cons (pv 6) pa_nil)))) pa_nil))))) pss_nil)))))
      (pss_one (ps_ret (pv 3))))), fun ds r hF => ?_⟩
  obtain ⟨q, X, x, ns, rfl, G, hx, hl, rfl⟩ := hF
  have hq1 := G.od.1
  have hq2 := G.od.2
  have h4 := mod_rng (nn ns 0) 4 (by decide)
  refine sa_seq ?_
  refine sa_asgO (ln_ rfl) (vn_lst (va_nil ⟨fl_ rfl, ln_ rfl, ?_⟩))
  walk_at "nf11"
  refine sa_seq ?_
  refine sa_for (iw_range (vl_op (vl_int (vl_op (vl_int1 (vl_op (vl_var rfl (vl_int (op_ixL (at_ns 0 (by omega) rfl) (.inl ⟨_, rfl, (vl_int (op_I ?_ (op_I0 ⟨_, rfl, ?_, ?_, ⟨fun i e => ∃ y1 y2 y3 y4 y5 y6 y7, e = ⟨[some (dSu (suX q X)), some (.int x), some (dL ns), none, y1, y2, y3, y4, y5, y6, y7], some (3, (rosM q X ns i).map (fun o => dRo q X x o))⟩, ⟨_, _, _, _, _, _, _, rfl⟩, fun i d e hd hI => ?_, fun e hI => ?_⟩⟩)))⟩))))))))))
  · decide
  · show -(2 ^ 62) ≤ 1 + nn ns 0 % 4
    omega
  · show 1 + nn ns 0 % 4 < 2 ^ 62
    omega
  · obtain ⟨y1, y2, y3, y4, y5, y6, y7, rfl⟩ := hI
    have hi : i < nRow ns := by
      have := (List.getElem?_eq_some_iff.mp hd).1
      simpa [nRow] using this
    have hi4 : i < 4 := by
      unfold nRow at hi
      omega
    have hd' : d = .int (i : Int) := by
      rw [List.getElem?_map, List.getElem?_range (show i < (1 + nn ns 0 % 4).toNat from hi)] at hd
      exact (Option.some.inj hd).symm
    subst hd'
    have hrl := rosM_len q X ns i
    refine ga_name (.inl rfl) ?_
    walk_at "nf11"
    refine sa_seq ?_
    refine sa_asg (vl_call (va_cons (vl_vn (vn_slN (vl_var rfl ⟨_, rfl, (vl_op (vl_int (vl_op (vl_int (vl_var rfl (op_I ?_ (op_I0 ⟨_, 2 + 12 * i, rfl, by omega, by omega, (va_cons (vl_var rfl (va_nil (u_law_person (ns := ns.drop (2 + 12 * i)) (S := suX q X) ?_ (ga_name (.inl rfl) ?_)))))⟩)))))))⟩)))))
    · exact .inl ⟨by decide, by decide⟩
    · rw [List.length_drop]
      exact ⟨by omega, G.pos⟩
    walk_at "nf11"
    refine sa_seq ?_
    refine sa_asg (vl_call (va_cons (vl_vn (vn_slN (vl_var rfl ⟨_, rfl, (vl_op (vl_int (vl_op (vl_int (vl_var rfl (op_I ?_ (op_I0 ⟨_, 5 + 12 * i, rfl, by omega, by omega, (va_cons (vl_op (vl_var rfl (vl_int (op_ixT rfl (va_nil (u_law_blinding (ns := ns.drop (5 + 12 * i)) ?_ (ga_name (.inl rfl) ?_))))))))⟩)))))))⟩)))))
    · exact .inl ⟨by decide, by decide⟩
    · rw [List.length_drop]
      exact ⟨by omega, by show 2 ≤ q; omega⟩
    walk_at "nf11"
    have hpe := pers_ok (ns.drop (2 + 12 * i)) (S := suX q X) G.pos
    have hbl := bl_ok (ns.drop (5 + 12 * i)) (S := suX q X) hq1
    obtain ⟨hpn, hpa, hpz⟩ := okPe_inv hpe
    refine sa_if (vt_test (vl_op (vl_call (va_cons (vl_var rfl (va_cons (vl_var rfl (va_nil (u_law_mark ⟨G, hpn.1, hpa.1, hpz.1⟩ (vl_int (op_neI ⟨_, rfl, ⟨fun h => ?_, fun h => ?_⟩⟩)))))))))))
    · have h' : ¬ E q (mu X (roM q ns i).p) = 1 := by
        intro z
        have z' : E q (mu X (persM (ns.drop (2 + 12 * i)) q)) = 1 := z
        rw [z'] at h
        cases h
      refine sa_seq ?_
      refine sa_asg (vl_call (va_cons (vl_var rfl (va_cons (vl_var rfl (va_cons (vl_var rfl (va_cons (vl_op (vl_op (vl_int1 (vl_op (vl_var rfl (vl_op (vl_int (vl_op (vl_int (vl_var rfl (op_I ?_ (op_I0 (op_ixL (at_ns (12 + 12 * i) (by omega) (by omega)) (.inl ⟨_, rfl, (vl_op (vl_var rfl (vl_int (op_ixT rfl (op_I ?_ (vl_int1 (vl_op (vl_op (vl_int1 (vl_op (vl_var rfl (vl_int (op_ixL (at_ns 1 (by omega) rfl) (.inl ⟨_, rfl, (vl_int (op_I ?_ (vl_int (op_B0 (.inr ⟨_, rfl, (op_I ?_ (va_cons (vl_var rfl (va_nil (u_law_session (w := (roM q ns i).w) ?_ (ga_tup rfl (gs_name (gs_name (gs_name (gs_name (gs_nil ?_)))))))))))⟩)))))⟩))))))))))))))⟩))))))))))))))))))))))
      · exact .inl ⟨by decide, by decide⟩
      · exact G.pos
      · decide
      · refine .inr ?_
        split <;> constructor <;> decide
      · exact ⟨G, hx, roM_w G ns i, hpe, hbl⟩
      walk_at "nf11"
      refine sa_append rfl ?_ (vl_tup (va_cons (vl_tup (va_cons (vl_var rfl (va_cons (vl_var rfl (va_cons (vl_var rfl (va_cons (vl_var rfl (va_nil ⟨fl_ rfl, ln_ rfl, (va_cons (vl_var rfl (va_cons (vl_var rfl (va_nil ⟨fl_ rfl, ln_ rfl, ⟨rfl, ?_⟩⟩)))))⟩))))))))))))
      · rw [List.length_map]
        omega
      have eL : (rosM q X ns (i + 1)).map (fun o => dRo q X x o) = (rosM q X ns i).map (fun o => dRo q X x o) ++ [dRo q X x (roM q ns i)] := by
        show (rosM q X ns i ++ (if E q (mu X (roM q ns i).p) = 1 then [] else [roM q ns i])).map _ = _
        rw [if_neg h', List.map_append]
        rfl
      exact ⟨_, _, _, _, _, _, _, congrArg (fun l => (⟨_, some (3, l)⟩ : En)) eL.symm⟩
    · have h' : E q (mu X (roM q ns i).p) = 1 := by
        have z' : E q (mu X (persM (ns.drop (2 + 12 * i)) q)) = 1 := by simpa using h
        exact z'
      have eL : (rosM q X ns (i + 1)).map (fun o => dRo q X x o) = (rosM q X ns i).map (fun o => dRo q X x o) := by
        show (rosM q X ns i ++ (if E q (mu X (roM q ns i).p) = 1 then [] else [roM q ns i])).map _ = _
        rw [if_pos h', List.append_nil]
      exact sa_next ⟨_, _, _, _, _, _, _, congrArg (fun l => (⟨_, some (3, l)⟩ : En)) eL.symm⟩
  · obtain ⟨y1, y2, y3, y4, y5, y6, y7, rfl⟩ := hI
    refine sa_retO rfl ?_
    simp only [List.length_map, List.length_range]
    rfl
end
end Ck
set_option Elab.async false
set_option linter.all false
set_option autoImplicit false
set_option maxRecDepth 100000
set_option maxHeartbeats 2000000
/-! P10: the law's further and spoilt papers. -/
namespace Ck
open PySem PySem.Spec PyProof.Rows L2 Fw Evl
/-! ### further papers -/
abbrev Tr : Type := Re × Ti × Sp
abbrev dTr (y : Tr) : PyData := .tuple [dRe y.1, dTi y.2.1, dSp y.2.2]
def getR (s : Sp) : Nat → Int
  | 0 => s.r0
  | 1 => s.r1
  | 2 => s.r2
  | _ => s.r3
def setR (s : Sp) (v : Int) : Nat → Sp
  | 0 => ⟨s.d, v, s.r1, s.r2, s.r3⟩
  | 1 => ⟨s.d, s.r0, v, s.r2, s.r3⟩
  | 2 => ⟨s.d, s.r0, s.r1, v, s.r3⟩
  | _ => ⟨s.d, s.r0, s.r1, s.r2, v⟩
def furO (q g0 : Int) (o : Of) (c : Int) : List Of := [⟨o.z + (2 * q + 1), o.a, o.b⟩, ⟨o.z, o.a - (2 * q + 1), o.b⟩, ⟨o.z, o.a, 0⟩, ⟨2 * q + 1 - o.z, o.a, o.b⟩, ⟨o.z, o.a, o.b + (2 * q + 1)⟩, ⟨o.z * g0 % (2 * q + 1), o.a, o.b * pw g0 ((0 - c) % q) (2 * q + 1) % (2 * q + 1)⟩]
def furP (q : Int) (p : Pe) : List Pe := [⟨p.n + q, p.a, p.z⟩, ⟨p.n, 5, p.z⟩, ⟨p.n, p.a, -1⟩]
def furA (q A : Int) : List Int := [A + (2 * q + 1), 2 * q + 1 - A, 0]
def furK (q : Int) (s : Sp) (k : Nat) : List Sp := [setR s ((getR s k + 1) % q) k, setR s (getR s k + q) k, setR s (getR s k + (0 - q)) k]
def furS (q : Int) (s : Sp) : Nat → List Sp
  | 0 => []
  | k + 1 => furS q s k ++ furK q s k
def reO (rec : Re) (o : Of) : Re := ⟨rec.p, o, rec.c, rec.r⟩
def reP (rec : Re) (p : Pe) : Re := ⟨p, rec.o, rec.c, rec.r⟩
def tiA (t : Ti) (A : Int) : Ti := ⟨A, t.B, t.z, t.a, t.b, t.r⟩
def fur1 (S : Su) (rec : Re) (t : Ti) (s : Sp) : List Tr := (furO S.q S.g0 rec.o rec.c).map fun o => (reO rec o, t, s)
def fur2 (S : Su) (rec : Re) (t : Ti) (s : Sp) : List Tr := (furP S.q rec.p).map fun p => (reP rec p, t, s)
def fur3 (S : Su) (rec : Re) (t : Ti) (s : Sp) : List Tr := (furA S.q t.A).map fun A => (rec, tiA t A, s)
def fur4 (S : Su) (rec : Re) (t : Ti) (s : Sp) : List Tr := [(rec, ⟨t.A, t.B, t.z, t.a, t.b, t.r - S.q⟩, s)]
def fur5 (S : Su) (rec : Re) (t : Ti) (s : Sp) : List Tr := [(rec, t, ⟨(s.d + 1) % S.q, s.r0, s.r1, s.r2, s.r3⟩)]
def fur6 (S : Su) (rec : Re) (t : Ti) (s : Sp) (k : Nat) : List Tr := (furS S.q s k).map fun s' => (rec, t, s')
def furM (S : Su) (rec : Re) (t : Ti) (s : Sp) : List Tr := fur1 S rec t s ++ fur2 S rec t s ++ fur3 S rec t s ++ fur4 S rec t s ++ fur5 S rec t s ++ fur6 S rec t s 4
theorem fur_len (S : Su) (rec : Re) (t : Ti) (s : Sp) : (furM S rec t s).length = 26 := rfl
def F_law_further (ds : List PyData) (r : List PyData) : Prop := ∃ (S : Su) (rec : Re) (t : Ti) (s : Sp), ds = [dSu S, dRe rec, dTi t, dSp s] ∧ (Od S.q ∧ -(2 ^ 64) < S.g0 ∧ S.g0 < 2 ^ 64) ∧ r = (furM S rec t s).map dTr
theorem l_law_further (ds : List PyData) (r : List PyData) (h : F_law_further ds r) : ds.length = 4 := by obtain ⟨_, _, _, _, rfl, _⟩ := h; rfl
theorem u_law_further {P : List PyData → Prop} {S : Su} {rec : Re} {t : Ti} {s : Sp} (h : Od S.q ∧ -(2 ^ 64) < S.g0 ∧ S.g0 < 2 ^ 64) (p : P ((furM S rec t s).map dTr)) : ∃ r, F_law_further [dSu S, dRe rec, dTi t, dSp s] r ∧ P r := ⟨_, ⟨_, _, _, _, rfl, h, rfl⟩, p⟩
/-! ### spoilt papers -/
def setO (o : Of) (v : Int) : Nat → Of
  | 0 => ⟨v, o.a, o.b⟩
  | 1 => ⟨o.z, v, o.b⟩
  | _ => ⟨o.z, o.a, v⟩
def getO (o : Of) : Nat → Int
  | 0 => o.z
  | 1 => o.a
  | _ => o.b
def setT (t : Ti) (v : Int) : Nat → Ti
  | 0 => ⟨v, t.B, t.z, t.a, t.b, t.r⟩
  | 1 => ⟨t.A, v, t.z, t.a, t.b, t.r⟩
  | 2 => ⟨t.A, t.B, v, t.a, t.b, t.r⟩
  | 3 => ⟨t.A, t.B, t.z, v, t.b, t.r⟩
  | _ => ⟨t.A, t.B, t.z, t.a, v, t.r⟩
def getT (t : Ti) : Nat → Int
  | 0 => t.A
  | 1 => t.B
  | 2 => t.z
  | 3 => t.a
  | _ => t.b
def spoM (S : Su) (rec : Re) (t : Ti) (way m : Int) (a3 a5 : Nat) : Re × Ti :=
  if way = 0 then (⟨rec.p, rec.o, (rec.c + m) % S.q, rec.r⟩, t) else
  if way = 1 then (⟨rec.p, rec.o, rec.c, (rec.r + m) % S.q⟩, t) else
  if way = 2 then (reO rec (setO rec.o (getO rec.o a3 * pw S.g m (2 * S.q + 1) % (2 * S.q + 1)) a3), t) else
  if way = 3 then (⟨rec.p, rec.o, 0, rec.r⟩, t) else
  if way = 4 then (rec, ⟨t.A, t.B, t.z, t.a, t.b, (t.r + m) % S.q⟩) else
  (rec, setT t (getT t a5 * pw S.g m (2 * S.q + 1) % (2 * S.q + 1)) a5)
def spoN (S : Su) (rec : Re) (t : Ti) (ns : List Int) : Re × Ti := spoM S rec t (nn ns 0 % 6) (1 + nn ns 1 % (S.q - 1)) (nn ns 2 % 3).toNat (nn ns 2 % 5).toNat
def F_law_spoilt (ds : List PyData) (r : Except Er PyData) : Prop := ∃ (S : Su) (rec : Re) (t : Ti) (ns : List Int), ds = [dSu S, dRe rec, dTi t, dL ns] ∧ Od S.q ∧ 3 ≤ ns.length ∧ r = .ok (.tuple [dRe (spoN S rec t ns).1, dTi (spoN S rec t ns).2])
theorem l_law_spoilt (ds : List PyData) (r : Except Er PyData) (h : F_law_spoilt ds r) : ds.length = 4 := by obtain ⟨_, _, _, _, rfl, _⟩ := h; rfl
theorem u_law_spoilt {P : PyData → Prop} {R : Er → Prop} {S : Su} {rec : Re} {t : Ti} {ns : List Int} (h : Od S.q ∧ 3 ≤ ns.length) (k : P (.tuple [dRe (spoN S rec t ns).1, dTi (spoN S rec t ns).2])) : ∃ r, F_law_spoilt [dSu S, dRe rec, dTi t, dL ns] r ∧ (∀ d, r = .ok d → P d) ∧ (∀ er, r = .error er → R er) := use0 ⟨_, _, _, _, rfl, h.1, h.2, rfl⟩ k
local macro_rules | `(tactic| walk_at "nf15") => `(tactic| show Sa _ _ _ _ ⟨[_, _, _, _, _, _, _, _, _, _, _, _, _, _, _], none⟩ _)
local macro_rules | `(tactic| walk_at "nf15o") => `(tactic| show Sa _ _ _ _ ⟨[_, _, _, _, _, _, _, _, _, _, _, _, _, _, _], some (13, _)⟩ _)
local macro_rules | `(tactic| walk_at "nf24") => `(tactic| show Sa _ _ _ _ ⟨[_, _, _, _, _, _, _, _, _, _, _, _, _, _, _, _, _, _, _, _, _, _, _, _], none⟩ _)
local macro_rules | `(tactic| walk_at "nf24o") => `(tactic| show Sa _ _ _ _ ⟨[_, _, _, _, _, _, _, _, _, _, _, _, _, _, _, _, _, _, _, _, _, _, _, _], some (16, _)⟩ _)
section
variable {P : Program} {w : World} {K : PySem.W.Frag} {mg : Str → Option Value} {base : Heap} {ea : Er → Addr} {CE : Addr}
/-! ### _law_spoilt -/
abbrev n_law_spoilt : List Str := ["_law_setup_here", "_law_record", "_law_ticket", "_law_numbers_here", "_law_q", "_law_bases", "_law_p", "_law_person_here", "_law_offer", "_law_c", "_law_r", "_law_way", "_law_more", "_law_row_here", "_law_at"]
theorem sc_law_spoilt : FnScope n_law_spoilt ["_law_setup_here", "_law_record", "_law_ticket", "_law_numbers_here"] (defScope slaw_spoilt) := ⟨rfl, rfl, rfl, by decide +kernel, rfl, by decide +kernel, by decide +kernel⟩
theorem ok_law_spoilt (T : Tx K mg ea CE) (c_law_power : Callee P w K mg base CX0 1 "_law_power" (spF K ea F_law_power)) {f : Addr} {fd : FuncData} (G : FnP K "_law_spoilt" slaw_spoilt f fd) (hm : mg "_law_spoilt" = some (.ref f)) : Callee P w K mg base CX0 2 "_law_spoilt" (spF K ea F_law_spoilt) := by
  refine okV (k := 1) G hm sc_law_spoilt ?len (fun _ _ _ _ _ _ us hl => match us, hl with | [_, _, _, _], _ => rfl) fun cdv A outer s H _E hr => ?_
  case len => exact l_law_spoilt
  refine ⟨_, (pss_cons (ps_asg (pv 0) (pg_tup rfl (pgs_cons (pg_name (i := 4) sc_law_spoilt.nd rfl (.inl rfl)) (pgs_cons (pg_name (i := 5) sc_law_spoilt.nd rfl (.inl rfl)) pgs_nil))))
      (pss_cons (ps_set (i := 6) sc_law_spoilt.nd rfl (.inl rfl) (pe_op op_add (pe_op op_mul pe_int (pv 4)) pe_int))
      (pss_cons (ps_asg (pv 1) (pg_tup rfl (pgs_cons (pg_name (i := 7) sc_law_spoilt.nd rfl (.inl rfl)) (pgs_cons (pg_name (i := 8) sc_law_spoilt.nd rfl (.inl rfl)) (pgs_cons (pg_name (i := 9) sc_law_spoilt.nd rfl (.inl rfl)) (pgs_cons (pg_name (i := 10) sc_law_spoilt.nd rfl (.inl rfl)) pgs_nil))))))
      (pss_cons (ps_set (i := 11) sc_law_spoilt.nd rfl (.inl rfl) (pe_op op_mod (pe_callTy call_int1 rfl T.fint boot_int (pa_cons (pe_ix (ixL (K := K) rfl) (pv 3) pe_int (fun _ _ => rfl)) pa_nil)) pe_int))
      (pss_cons (ps_set (i := 12) sc_law_spoilt.nd rfl (.inl rfl) (pe_op op_add pe_int (pe_op op_mod (pe_callTy call_int1 rfl T.fint boot_int (pa_cons (pe_ix (ixL (K := K) rfl) (pv 3) pe_int (fun _ _ => rfl)) pa_nil)) (pe_op op_sub (pv 4) pe_int))))
      (pss_cons (ps_if (pt_cmpR op_eq (pv 11) pe_int (nomark _)) (pss_one (ps_ret (pe_tup (pa_cons (pe_tup (pa_cons (pv 7) (pa_cons (pv 8) (pa_cons (pe_op op_mod (pe_callTy call_int1 rfl T.fint boot_int (pa_cons (pe_op op_add (pv 9) (pv 12)) pa_nil)) (pv 4)) (pa_cons (pv 10) pa_nil))))) (pa_cons (pv 2) pa_nil))))) pss_nil)
      (pss_cons (ps_if (pt_cmpR op_eq (pv 11) pe_int (nomark _)) (pss_one (ps_ret (pe_tup (pa_cons (pe_tup (pa_cons (pv 7) (pa_cons (pv 8) (pa_cons (pv 9) (pa_cons (pe_op op_mod (pe_callTy call_int1 rfl T.fint boot_int (pa_cons (pe_op op_add (pv 10) (pv 12)) pa_nil)) (pv 4)) pa_nil))))) (pa_cons (pv 2) pa_nil))))) pss_nil)
      (pss_cons (ps_if (pt_cmpR op_eq (pv 11) pe_int (nomark _)) (pss_cons (ps_set (i := 13) sc_law_spoilt.nd rfl (.inl rfl) (pe_callTy call_list_of rfl T.flist boot_list (pa_cons (pv 8) pa_nil)))
      (pss_cons (ps_set (i := 14) sc_law_spoilt.nd rfl (.inl rfl) (pe_op op_mod (pe_callTy call_int1 rfl T.fint boot_int (pa_cons (pe_ix (ixL (K := K) rfl) (pv 3) pe_int (fun _ _ => rfl)) pa_nil)) pe_int))
      (pss_cons (ps_asg (pe_op op_mod (pe_callTy call_int1 rfl T.fint boot_int (pa_cons (pe_op op_mul (pe_ix (ixL (K := K) rfl) (pv 13) (pv 14) (fun _ _ => rfl)) (c_law_power.c0 (W := W0) hr rfl (pa_cons (pv 6) (pa_cons (pe_ix (ixT (K := K) rfl) (pv 5) pe_int (fun _ _ => rfl)) (pa_cons (pv 12) pa_nil))))) pa_nil)) (pv 6)) (pg_sub (pv 13) (pv 14) set_list))
      (pss_one (ps_ret (pe_tup (pa_cons (pe_tup (pa_cons (pv 7) (pa_cons (pe_callTy call_tuple_of rfl T.ftuple boot_tuple (pa_cons (pv 13) pa_nil)) (pa_cons (pv 9) (pa_cons (pv 10) pa_nil))))) (pa_cons (pv 2) pa_nil)))))))) pss_nil)
      (pss_cons (ps_if (pt_cmpR op_eq (pv 11) pe_int (nomark _)) (pss_one (ps_ret (pe_tup (pa_cons (pe_tup (pa_cons (pv 7) (pa_cons (pv 8) (pa_cons pe_int (pa_cons (pv 10) pa_nil))))) (pa_cons (pv 2) pa_nil))))) pss_nil)
      (pss_cons (ps_set (i := 13) sc_law_spoilt.nd rfl (.inl rfl) (pe_callTy call_list_of rfl T.flist boot_list (pa_cons (pv 2) pa_nil)))
      (pss_cons (ps_set (i := 14) sc_law_spoilt.nd rfl (.inl rfl) (pe_op op_mod (pe_callTy call_int1 rfl T.fint boot_int (pa_cons (pe_ix (ixL (K := K) rfl) (pv 3) pe_int (fun _ _ => rfl)) pa_nil)) pe_int))
      (pss_cons (ps_asg (pe_op op_mod (pe_callTy call_int1 rfl T.fint boot_int (pa_cons (pe_op op_mul (pe_ix (ixL (K := K) rfl) (pv 13) (pv 14) (fun _ _ => rfl)) (c_law_power.c0 (W := W0) hr rfl (pa_cons (pv 6) (pa_cons (pe_ix (ixT (K := K) rfl) (pv 5) pe_int (fun _ _ => rfl)) (pa_cons (pv 12) pa_nil))))) pa_nil)) (pv 6)) (pg_sub (pv 13) (pv 14) set_list))
      (pss_cons (ps_if (pt_cmpR op_eq (pv 11) pe_int (nomark _)) (pss_one (ps_set (i := 13) sc_law_spoilt.nd rfl (.inl rfl) (pe_op op_cat (pe_callTy call_list_of rfl T.flist boot_list (pa_cons (pe_slice sl_tupA (pv 2) po_none (po_some pe_int)) pa_nil)) (pe_lst (pa_cons (pe_op op_mod (pe_callTy call_int1 rfl T.fint boot_int (pa_cons (pe_op op_add (pe_ix (ixT (K := K) rfl) (pv 2) pe_int (fun _ _ => rfl)) (pv 12)) pa_nil)) (pv 4)) pa_nil))))) pss_nil)
      (pss_one (ps_ret (pe_tup (pa_cons (pv 1) (pa_cons (pe_callTy call_tuple_of rfl T.ftuple boot_tuple (pa_cons (pv 13) pa_nil)) pa_nil)))))))))))))))))), fun ds r hF => ?_⟩
  obtain ⟨S, rec, t, ns, rfl, hq, hl, rfl⟩ := hF
  have hq1 := hq.1
  have hq2 := hq.2
  have h0 := mod_rng (nn ns 0) 6 (by decide)
  have h3 := mod_rng (nn ns 2) 3 (by decide)
  have h5 := mod_rng (nn ns 2) 5 (by decide)
  have hm := mod_rng (nn ns 1) (S.q - 1) (by omega)
  have hpw := pw_rng (b := S.g) (e := 1 + nn ns 1 % (S.q - 1)) (m := 2 * S.q + 1) (by omega)
  refine sa_seq ?_
  refine sa_asg (vl_var rfl (ga_tup rfl (gs_name (gs_name (gs_nil ?_)))))
  walk_at "nf15"
  refine sa_seq ?_
  refine sa_asg (vl_op (vl_op (vl_int (vl_var rfl (op_I ?_ (vl_int (op_I0 (ga_name (.inl rfl) ?_))))))))
  · exact .inl ⟨by decide, by decide⟩
  walk_at "nf15"
  refine sa_seq ?_
  refine sa_asg (vl_var rfl (ga_tup rfl (gs_name (gs_name (gs_name (gs_name (gs_nil ?_)))))))
  walk_at "nf15"
  refine sa_seq ?_
  refine sa_asg (vl_op (vl_int1 (vl_op (vl_var rfl (vl_int (op_ixL (at_ns 0 (by omega) rfl) (.inl ⟨_, rfl, (vl_int (op_I ?_ (ga_name (.inl rfl) ?_)))⟩)))))))
  · decide
  walk_at "nf15"
  refine sa_seq ?_
  refine sa_asg (vl_op (vl_int (vl_op (vl_int1 (vl_op (vl_var rfl (vl_int (op_ixL (at_ns 1 (by omega) rfl) (.inl ⟨_, rfl, (vl_op (vl_var rfl (vl_int (op_I0 (op_I ?_ (op_I0 (ga_name (.inl rfl) ?_)))))))⟩)))))))))
  · show 0 < S.q - 1
    omega
  walk_at "nf15"
  have ew : spoN S rec t ns = spoM S rec t (nn ns 0 % 6) (1 + nn ns 1 % (S.q - 1)) (nn ns 2 % 3).toNat (nn ns 2 % 5).toNat := rfl
  rw [ew]
  clear ew
  revert h0 hm hpw
  generalize nn ns 0 % 6 = way
  generalize 1 + nn ns 1 % (S.q - 1) = m
  intro h0 hm hpw
  refine sa_seq ?_
  refine sa_if (vt_test (vl_op (vl_var rfl (vl_int (op_eqI ⟨_, rfl, ⟨fun h => ?_, fun h => ?_⟩⟩)))))
  ·
    have e0 : way = 0 := of_decide_eq_true h
    refine sa_ret (vl_tup (va_cons (vl_tup (va_cons (vl_var rfl (va_cons (vl_var rfl (va_cons (vl_op (vl_int1 (vl_op (vl_var rfl (vl_var rfl (op_I0 (.inl ⟨_, rfl, (vl_var rfl (op_I ?_ (va_cons (vl_var rfl (va_nil ⟨fl_ rfl, ln_ rfl, (va_cons (vl_var rfl (va_nil ⟨fl_ rfl, ln_ rfl, ?_⟩)))⟩)))))⟩)))))))))))))))
    · show 0 < S.q
      omega
    · unfold spoM
      rw [if_pos e0]
  have e0 : ¬ way = 0 := of_decide_eq_false h
  refine sa_next ?_
  refine sa_seq ?_
  refine sa_if (vt_test (vl_op (vl_var rfl (vl_int (op_eqI ⟨_, rfl, ⟨fun h => ?_, fun h => ?_⟩⟩)))))
  ·
    have e1 : way = 1 := of_decide_eq_true h
    refine sa_ret (vl_tup (va_cons (vl_tup (va_cons (vl_var rfl (va_cons (vl_var rfl (va_cons (vl_var rfl (va_cons (vl_op (vl_int1 (vl_op (vl_var rfl (vl_var rfl (op_I0 (.inl ⟨_, rfl, (vl_var rfl (op_I ?_ (va_nil ⟨fl_ rfl, ln_ rfl, (va_cons (vl_var rfl (va_nil ⟨fl_ rfl, ln_ rfl, ?_⟩)))⟩)))⟩)))))))))))))))))
    · show 0 < S.q
      omega
    · unfold spoM
      rw [if_neg e0, if_pos e1]
  have e1 : ¬ way = 1 := of_decide_eq_false h
  refine sa_next ?_
  refine sa_seq ?_
  refine sa_if (vt_test (vl_op (vl_var rfl (vl_int (op_eqI ⟨_, rfl, ⟨fun h => ?_, fun h => ?_⟩⟩)))))
  · have e2 : way = 2 := of_decide_eq_true h
    refine sa_seq ?_
    refine sa_asgO (ln_ rfl) (vn_listOf (vl_var rfl (.inr ⟨_, rfl, ?_⟩)))
    walk_at "nf15o"
    refine sa_seq ?_
    refine sa_asg (vl_op (vl_int1 (vl_op (vl_var rfl (vl_int (op_ixL (at_ns 2 (by omega) rfl) (.inl ⟨_, rfl, (vl_int (op_I ?_ (ga_name (.inl rfl) ?_)))⟩)))))))
    · decide
    walk_at "nf15o"
    have er : spoM S rec t way m (nn ns 2 % 3).toNat (nn ns 2 % 5).toNat = (reO rec (setO rec.o (getO rec.o (nn ns 2 % 3).toNat * pw S.g m (2 * S.q + 1) % (2 * S.q + 1)) (nn ns 2 % 3).toNat), t) := by
      unfold spoM
      rw [if_neg e0, if_neg e1, if_pos e2]
    rw [er]
    clear er
    revert h3
    generalize nn ns 2 % 3 = a
    intro h3
    obtain rfl | rfl | rfl : a = 0 ∨ a = 1 ∨ a = 2 := by omega
    all_goals
      refine sa_seq ?_
      refine sa_setitem rfl (vl_op (vl_int1 (vl_op (vl_op (vl_own rfl (vl_var rfl (op_ixL rfl (vl_call (va_cons (vl_var rfl (va_cons (vl_op (vl_var rfl (vl_int (op_ixT rfl (va_cons (vl_var rfl (va_nil (u_law_power ?_ (op_I ?_ (.inl ⟨_, rfl, (vl_var rfl (op_I ?_ ⟨rfl, (vl_var rfl ⟨_, _, rfl, rfl, ?_⟩)⟩))⟩)))))))))))))))))))))
      · exact ⟨by omega, by omega⟩
      · exact .inr ⟨by omega, by omega⟩
      · show 0 < 2 * S.q + 1
        omega
      walk_at "nf15o"
      refine sa_ret (vl_tup (va_cons (vl_tup (va_cons (vl_var rfl (va_cons (vl_tupOf (vl_own rfl (.inl ⟨_, rfl, (va_cons (vl_var rfl (va_cons (vl_var rfl (va_nil ⟨fl_ rfl, ln_ rfl, (va_cons (vl_var rfl (va_nil ⟨fl_ rfl, ln_ rfl, ?_⟩)))⟩)))))⟩)))))))))
      rfl
  have e2 : ¬ way = 2 := of_decide_eq_false h
  refine sa_next ?_
  refine sa_seq ?_
  refine sa_if (vt_test (vl_op (vl_var rfl (vl_int (op_eqI ⟨_, rfl, ⟨fun h => ?_, fun h => ?_⟩⟩)))))
  ·
    have e3 : way = 3 := of_decide_eq_true h
    refine sa_ret (vl_tup (va_cons (vl_tup (va_cons (vl_var rfl (va_cons (vl_var rfl (va_cons (vl_int (va_cons (vl_var rfl (va_nil ⟨fl_ rfl, ln_ rfl, (va_cons (vl_var rfl (va_nil ⟨fl_ rfl, ln_ rfl, ?_⟩)))⟩))))))))))))
    unfold spoM
    rw [if_neg e0, if_neg e1, if_neg e2, if_pos e3]
  have e3 : ¬ way = 3 := of_decide_eq_false h
  refine sa_next ?_
  refine sa_seq ?_
  refine sa_asgO (ln_ rfl) (vn_listOf (vl_var rfl (.inr ⟨_, rfl, ?_⟩)))
  walk_at "nf15o"
  refine sa_seq ?_
  refine sa_asg (vl_op (vl_int1 (vl_op (vl_var rfl (vl_int (op_ixL (at_ns 2 (by omega) rfl) (.inl ⟨_, rfl, (vl_int (op_I ?_ (ga_name (.inl rfl) ?_)))⟩)))))))
  · decide
  walk_at "nf15o"
  generalize (nn ns 2 % 3).toNat = a3
  revert h5
  generalize nn ns 2 % 5 = a
  intro h5
  obtain rfl | rfl | rfl | rfl | rfl : a = 0 ∨ a = 1 ∨ a = 2 ∨ a = 3 ∨ a = 4 := by omega
  all_goals
    refine sa_seq ?_
    refine sa_setitem rfl (vl_op (vl_int1 (vl_op (vl_op (vl_own rfl (vl_var rfl (op_ixL rfl (vl_call (va_cons (vl_var rfl (va_cons (vl_op (vl_var rfl (vl_int (op_ixT rfl (va_cons (vl_var rfl (va_nil (u_law_power ?_ (op_I ?_ (.inl ⟨_, rfl, (vl_var rfl (op_I ?_ ⟨rfl, (vl_var rfl ⟨_, _, rfl, rfl, ?_⟩)⟩))⟩)))))))))))))))))))))
    · exact ⟨by omega, by omega⟩
    · exact .inr ⟨by omega, by omega⟩
    · show 0 < 2 * S.q + 1
      omega
    walk_at "nf15o"
    refine sa_seq ?_
    refine sa_if (vt_test (vl_op (vl_var rfl (vl_int (op_eqI ⟨_, rfl, ⟨fun h => ?_, fun h => ?_⟩⟩)))))
    ·
      have e4 : way = 4 := of_decide_eq_true h
      refine sa_asgN (vn_cat (vl_vn (vn_listOf (vl_slT (vl_var rfl ⟨_, rfl, (vo_none (vo_some (vl_int ⟨_, rfl, (.inr ⟨_, rfl, ⟨_, rfl, (vl_vn (vn_lst (va_cons (vl_op (vl_int1 (vl_op (vl_op (vl_var rfl (vl_int (op_ixT rfl (vl_var rfl (op_I0 (.inl ⟨_, rfl, (vl_var rfl (op_I ?_ (va_nil ⟨fl_ rfl, ln_ rfl, ⟨_, rfl, ln_ rfl, ?_⟩⟩)))⟩)))))))))))))⟩⟩)⟩)))⟩)))))
      · show 0 < S.q
        omega
      walk_at "nf15"
      refine sa_ret (vl_tup (va_cons (vl_var rfl (va_cons (vl_tupOf (vl_var rfl (.inl ⟨_, rfl, (va_nil ⟨fl_ rfl, ln_ rfl, ?_⟩)⟩)))))))
      unfold spoM
      rw [if_neg e0, if_neg e1, if_neg e2, if_neg e3, if_pos e4]
      rfl
    · have e4 : ¬ way = 4 := of_decide_eq_false h
      refine sa_next ?_
      refine sa_ret (vl_tup (va_cons (vl_var rfl (va_cons (vl_tupOf (vl_own rfl (.inl ⟨_, rfl, (va_nil ⟨fl_ rfl, ln_ rfl, ?_⟩)⟩)))))))
      unfold spoM
      rw [if_neg e0, if_neg e1, if_neg e2, if_neg e3, if_neg e4]
      rfl
end
end Ck
set_option Elab.async false
set_option linter.all false
set_option autoImplicit false
set_option maxRecDepth 100000
set_option maxHeartbeats 4000000
/-! P11: the law's further papers, walked; none of them explains, nor does a spoilt one. -/
namespace Ck
open PySem PySem.Spec PyProof.Rows L2 Fw Evl
abbrev eF (S : Su) (rec : Re) (t : Ti) (s : Sp) (y14 y15 y17 y18 y19 y20 y21 y22 y23 : Option PyData) (l : List Tr) : En :=
  ⟨[some (dSu S), some (dRe rec), some (dTi t), some (dSp s), some (.int S.q), some (.tuple [.int S.g, .int S.g0, .int S.g1, .int S.g2, .int S.g3]), some (.int (2 * S.q + 1)), some (dPe rec.p), some (dOf rec.o), some (.int rec.c), some (.int rec.r), some (.int rec.o.z), some (.int rec.o.a), some (.int rec.o.b), y14, y15, none, y17, y18, y19, y20, y21, y22, y23], some (16, l.map dTr)⟩
theorem apx {L M : List Tr} {i : Nat} {y : Tr} (h : M[i]? = some y) : (L ++ M.take i).map dTr ++ [dTr y] = (L ++ M.take (i + 1)).map dTr := by
  rw [List.take_add_one, h]
  simp only [List.map_append, List.append_assoc]
  rfl
theorem apx' {L M : List Tr} {i : Nat} {y : Tr} {d : PyData} (h : M[i]? = some y) (e : d = dTr y) : (L ++ M.take i).map dTr ++ [d] = (L ++ M.take (i + 1)).map dTr := by
  rw [e]
  exact apx h
theorem own_eq {ρ : List (Option PyData)} {l m : List PyData} (h : l = m) : (⟨ρ, some (16, l)⟩ : En) = ⟨ρ, some (16, m)⟩ := by rw [h]
local macro_rules | `(tactic| walk_at "nf24") => `(tactic| show Sa _ _ _ _ ⟨[_, _, _, _, _, _, _, _, _, _, _, _, _, _, _, _, _, _, _, _, _, _, _, _], none⟩ _)
local macro_rules | `(tactic| walk_at "nf24o") => `(tactic| show Sa _ _ _ _ ⟨[_, _, _, _, _, _, _, _, _, _, _, _, _, _, _, _, _, _, _, _, _, _, _, _], some (16, _)⟩ _)
section
variable {P : Program} {w : World} {K : PySem.W.Frag} {mg : Str → Option Value} {base : Heap} {ea : Er → Addr} {CE : Addr}
/-! ### _law_further -/
abbrev n_law_further : List Str := ["_law_setup_here", "_law_record", "_law_ticket", "_law_spend_here", "_law_q", "_law_bases", "_law_p", "_law_person_here", "_law_offer", "_law_c", "_law_r", "_law_z", "_law_a", "_law_b", "_law_other", "_law_offers", "_law_rows", "_law_one", "_law_first", "_law_d", "_law_answers", "_law_k", "_law_step", "_law_answer"]
theorem sc_law_further : FnScope n_law_further ["_law_setup_here", "_law_record", "_law_ticket", "_law_spend_here"] (defScope slaw_further) := ⟨rfl, rfl, rfl, by decide +kernel, rfl, by decide +kernel, by decide +kernel⟩
theorem ok_law_further (T : Tx K mg ea CE) (c_law_power : Callee P w K mg base CX0 1 "_law_power" (spF K ea F_law_power)) {f : Addr} {fd : FuncData} (G : FnP K "_law_further" slaw_further f fd) (hm : mg "_law_further" = some (.ref f)) : Callee P w K mg base CX0 2 "_law_further" (spN K F_law_further) := by
  refine okN (ea := ea) (k := 1) G hm sc_law_further ?len (fun _ _ _ _ _ _ us hl => match us, hl with | [_, _, _, _], _ => rfl) fun cdv A outer s H _E hr => ?_
  case len => exact l_law_further
  refine ⟨_, (pss_cons (ps_asg (pv 0) (pg_tup rfl (pgs_cons (pg_name (i := 4) sc_law_further.nd rfl (.inl rfl)) (pgs_cons (pg_name (i := 5) sc_law_further.nd rfl (.inl rfl)) pgs_nil))))
      (pss_cons (ps_set (i := 6) sc_law_further.nd rfl (.inl rfl) (pe_op op_add (pe_op op_mul pe_int (pv 4)) pe_int))
      (pss_cons (ps_asg (pv 1) (pg_tup rfl (pgs_cons (pg_name (i := 7) sc_law_further.nd rfl (.inr rfl)) (pgs_cons (pg_name (i := 8) sc_law_further.nd rfl (.inl rfl)) (pgs_cons (pg_name (i := 9) sc_law_further.nd rfl (.inr rfl)) (pgs_cons (pg_name (i := 10) sc_law_further.nd rfl (.inr rfl)) pgs_nil))))))
      (pss_cons (ps_asg (pv 8) (pg_tup rfl (pgs_cons (pg_name (i := 11) sc_law_further.nd rfl (.inl rfl)) (pgs_cons (pg_name (i := 12) sc_law_further.nd rfl (.inl rfl)) (pgs_cons (pg_name (i := 13) sc_law_further.nd rfl (.inl rfl)) pgs_nil)))))
      (pss_cons (ps_set (i := 14) sc_law_further.nd rfl (.inl rfl) (pe_op op_mod (pe_callTy call_int1 rfl T.fint boot_int (pa_cons (pe_op op_mul (pv 13) (c_law_power.c0 (W := W0) hr rfl (pa_cons (pv 6) (pa_cons (pe_ix (ixT (K := K) rfl) (pv 5) pe_int (fun _ _ => rfl)) (pa_cons (pe_op op_mod (pe_callTy call_int1 rfl T.fint boot_int (pa_cons (pe_op op_sub pe_int (pv 9)) pa_nil)) (pv 4)) pa_nil))))) pa_nil)) (pv 6)))
      (pss_cons (ps_set (i := 15) sc_law_further.nd rfl (.inl rfl) (pe_lst (pa_cons (pe_tup (pa_cons (pe_op op_add (pv 11) (pv 6)) (pa_cons (pv 12) (pa_cons (pv 13) pa_nil)))) (pa_cons (pe_tup (pa_cons (pv 11) (pa_cons (pe_op op_sub (pv 12) (pv 6)) (pa_cons (pv 13) pa_nil)))) (pa_cons (pe_tup (pa_cons (pv 11) (pa_cons (pv 12) (pa_cons pe_int pa_nil)))) (pa_cons (pe_tup (pa_cons (pe_op op_sub (pv 6) (pv 11)) (pa_cons (pv 12) (pa_cons (pv 13) pa_nil)))) (pa_cons (pe_tup (pa_cons (pv 11) (pa_cons (pv 12) (pa_cons (pe_op op_add (pv 13) (pv 6)) pa_nil)))) (pa_cons (pe_tup (pa_cons (pe_op op_mod (pe_callTy call_int1 rfl T.fint boot_int (pa_cons (pe_op op_mul (pv 11) (pe_ix (ixT (K := K) rfl) (pv 5) pe_int (fun _ _ => rfl))) pa_nil)) (pv 6)) (pa_cons (pv 12) (pa_cons (pv 14) pa_nil)))) pa_nil))))))))
      (pss_cons (ps_setLc (i := 16) (own := [("_law_one", 17)]) (g := gName 17) (tt := tYes) rfl sc_law_further.nd rfl rfl (sw_true rfl rfl rfl (by decide +kernel)) (pi_list (pv 15)) (blkOk_by (N := n_law_further) (sc := defScope slaw_further) (by decide +kernel)) (fun _ _ _ _ _ => (pg_name (i := 17) sc_law_further.nd rfl (Or.inl rfl) (hf := .inr rfl))) (fun _ _ _ _ _ => pts_nil) (fun _ _ _ _ _ => (pe_tup (pa_cons (pe_tup (pa_cons (pv 7) (pa_cons (pv 17) (pa_cons (pv 9) (pa_cons (pv 10) pa_nil))))) (pa_cons (pv 2) (pa_cons (pv 3) pa_nil))))))
      (pss_cons (ps_for PassesOwn.never rfl (pi_tup (pe_tup (pa_cons (pe_tup (pa_cons (pe_op op_add (pe_ix (ixT (K := K) rfl) (pv 7) pe_int (fun _ _ => rfl)) (pv 4)) (pa_cons (pe_ix (ixT (K := K) rfl) (pv 7) pe_int (fun _ _ => rfl)) (pa_cons (pe_ix (ixT (K := K) rfl) (pv 7) pe_int (fun _ _ => rfl)) pa_nil)))) (pa_cons (pe_tup (pa_cons (pe_ix (ixT (K := K) rfl) (pv 7) pe_int (fun _ _ => rfl)) (pa_cons pe_int (pa_cons (pe_ix (ixT (K := K) rfl) (pv 7) pe_int (fun _ _ => rfl)) pa_nil)))) (pa_cons (pe_tup (pa_cons (pe_ix (ixT (K := K) rfl) (pv 7) pe_int (fun _ _ => rfl)) (pa_cons (pe_ix (ixT (K := K) rfl) (pv 7) pe_int (fun _ _ => rfl)) (pa_cons (pe_un un_neg pe_int) pa_nil)))) pa_nil))))) (pg_name (i := 17) sc_law_further.nd rfl (.inl rfl)) (pss_one (ps_expr (pe_bm PySem.F.plainAttrs_list PySem.F.slot_list_append PySem.F.type_list_append mt_append (pv 16) (pa_cons (pe_tup (pa_cons (pe_tup (pa_cons (pv 17) (pa_cons (pv 8) (pa_cons (pv 9) (pa_cons (pv 10) pa_nil))))) (pa_cons (pv 2) (pa_cons (pv 3) pa_nil)))) pa_nil)))))
      (pss_cons (ps_for PassesOwn.never rfl (pi_tup (pe_tup (pa_cons (pe_op op_add (pe_ix (ixT (K := K) rfl) (pv 2) pe_int (fun _ _ => rfl)) (pv 6)) (pa_cons (pe_op op_sub (pv 6) (pe_ix (ixT (K := K) rfl) (pv 2) pe_int (fun _ _ => rfl))) (pa_cons pe_int pa_nil))))) (pg_name (i := 18) sc_law_further.nd rfl (.inl rfl)) (pss_one (ps_expr (pe_bm PySem.F.plainAttrs_list PySem.F.slot_list_append PySem.F.type_list_append mt_append (pv 16) (pa_cons (pe_tup (pa_cons (pv 1) (pa_cons (pe_op op_catA (pe_tup (pa_cons (pv 18) pa_nil)) (pe_slice sl_tupA (pv 2) (po_some pe_int) po_none)) (pa_cons (pv 3) pa_nil)))) pa_nil)))))
      (pss_cons (ps_expr (pe_bm PySem.F.plainAttrs_list PySem.F.slot_list_append PySem.F.type_list_append mt_append (pv 16) (pa_cons (pe_tup (pa_cons (pv 1) (pa_cons (pe_op op_catA (pe_slice sl_tupA (pv 2) po_none (po_some pe_int)) (pe_tup (pa_cons (pe_op op_sub (pe_ix (ixT (K := K) rfl) (pv 2) pe_int (fun _ _ => rfl)) (pv 4)) pa_nil))) (pa_cons (pv 3) pa_nil)))) pa_nil)))
      (pss_cons (ps_asg (pv 3) (pg_tup rfl (pgs_cons (pg_name (i := 19) sc_law_further.nd rfl (.inl rfl)) (pgs_cons (pg_name (i := 20) sc_law_further.nd rfl (.inl rfl)) pgs_nil))))
      (pss_cons (ps_expr (pe_bm PySem.F.plainAttrs_list PySem.F.slot_list_append PySem.F.type_list_append mt_append (pv 16) (pa_cons (pe_tup (pa_cons (pv 1) (pa_cons (pv 2) (pa_cons (pe_tup (pa_cons (pe_op op_mod (pe_callTy call_int1 rfl T.fint boot_int (pa_cons (pe_op op_add (pv 19) pe_int) pa_nil)) (pv 4)) (pa_cons (pv 20) pa_nil))) pa_nil)))) pa_nil)))
      (pss_cons (ps_for PassesOwn.never rfl (pi_range1 rfl T.frange (pa_cons pe_int pa_nil)) (pg_name (i := 21) sc_law_further.nd rfl (.inl rfl)) (pss_one (ps_for PassesOwn.never rfl (pi_tup (pe_tup (pa_cons pe_int (pa_cons (pv 4) (pa_cons (pe_op op_sub pe_int (pv 4)) pa_nil))))) (pg_name (i := 22) sc_law_further.nd rfl (.inl rfl)) (pss_cons (ps_set (i := 23) sc_law_further.nd rfl (.inl rfl) (pe_op op_add (pe_ix (ixT (K := K) rfl) (pv 20) (pv 21) (fun _ _ => rfl)) (pv 22)))
      (pss_cons (ps_if (pt_cmpR op_eq (pv 22) pe_int (nomark _)) (pss_one (ps_set (i := 23) sc_law_further.nd rfl (.inl rfl) (pe_op op_mod (pe_callTy call_int1 rfl T.fint boot_int (pa_cons (pv 23) pa_nil)) (pv 4)))) pss_nil)
      (pss_one (ps_expr (pe_bm PySem.F.plainAttrs_list PySem.F.slot_list_append PySem.F.type_list_append mt_append (pv 16) (pa_cons (pe_tup (pa_cons (pv 1) (pa_cons (pv 2) (pa_cons (pe_tup (pa_cons (pv 19) (pa_cons (pe_op op_catA (pe_op op_catA (pe_slice sl_tupA (pv 20) po_none (po_some (pv 21))) (pe_tup (pa_cons (pv 23) pa_nil))) (pe_slice sl_tupA (pv 20) (po_some (pe_op op_add (pv 21) pe_int)) po_none)) pa_nil))) pa_nil)))) pa_nil)))))))))
      (pss_one (ps_ret (pv 16)))))))))))))))), fun ds r hF => ?_⟩
  obtain ⟨S, rec, t, s, rfl, ⟨hq, hg1, hg2⟩, rfl⟩ := hF
  have hq1 := hq.1
  have hq2 := hq.2
  have hpw := pw_rng (b := S.g0) (e := (0 - rec.c) % S.q) (m := 2 * S.q + 1) (by omega)
  refine sa_seq ?_
  refine sa_asg (vl_var rfl (ga_tup rfl (gs_name (gs_name (gs_nil ?_)))))
  walk_at "nf24"
  refine sa_seq ?_
  refine sa_asg (vl_op (vl_op (vl_int (vl_var rfl (op_I ?_ (vl_int (op_I0 (ga_name (.inl rfl) ?_))))))))
  · exact .inl ⟨by decide, by decide⟩
  walk_at "nf24"
  refine sa_seq ?_
  refine sa_asg (vl_var rfl (ga_tup rfl (gs_name (gs_name (gs_name (gs_name (gs_nil ?_)))))))
  walk_at "nf24"
  refine sa_seq ?_
  refine sa_asg (vl_var rfl (ga_tup rfl (gs_name (gs_name (gs_name (gs_nil ?_))))))
  walk_at "nf24"
  refine sa_seq ?_
  refine sa_asg (vl_op (vl_int1 (vl_op (vl_var rfl (vl_call (va_cons (vl_var rfl (va_cons (vl_op (vl_var rfl (vl_int (op_ixT rfl (va_cons (vl_op (vl_int1 (vl_op (vl_int (vl_var rfl (op_I0 (.inl ⟨_, rfl, (vl_var rfl (op_I ?_ (va_nil (u_law_power ?_ (op_I ?_ (.inl ⟨_, rfl, (vl_var rfl (op_I ?_ (ga_name (.inl rfl) ?_)))⟩))))))⟩))))))))))))))))))))
  · show 0 < S.q
    omega
  · exact ⟨by omega, by omega⟩
  · exact .inr ⟨by omega, by omega⟩
  · show 0 < 2 * S.q + 1
    omega
  walk_at "nf24"
  refine sa_seq ?_
  refine sa_asgN (vn_lst (va_cons (vl_tup (va_cons (vl_op (vl_var rfl (vl_var rfl (op_I0 (va_cons (vl_var rfl (va_cons (vl_var rfl (va_nil ⟨fl_ rfl, ln_ rfl, (va_cons (vl_tup (va_cons (vl_var rfl (va_cons (vl_op (vl_var rfl (vl_var rfl (op_I0 (va_cons (vl_var rfl (va_nil ⟨fl_ rfl, ln_ rfl, (va_cons (vl_tup (va_cons (vl_var rfl (va_cons (vl_var rfl (va_cons (vl_int (va_nil ⟨fl_ rfl, ln_ rfl, (va_cons (vl_tup (va_cons (vl_op (vl_var rfl (vl_var rfl (op_I0 (va_cons (vl_var rfl (va_cons (vl_var rfl (va_nil ⟨fl_ rfl, ln_ rfl, (va_cons (vl_tup (va_cons (vl_var rfl (va_cons (vl_var rfl (va_cons (vl_op (vl_var rfl (vl_var rfl (op_I0 (va_nil ⟨fl_ rfl, ln_ rfl, (va_cons (vl_tup (va_cons (vl_op (vl_int1 (vl_op (vl_var rfl (vl_op (vl_var rfl (vl_int (op_ixT rfl (op_I ?_ (.inl ⟨_, rfl, (vl_var rfl (op_I ?_ (va_cons (vl_var rfl (va_cons (vl_var rfl (va_nil ⟨fl_ rfl, ln_ rfl, (va_nil ⟨fl_ rfl, ln_ rfl, ?_⟩)⟩)))))))⟩)))))))))))))⟩))))))))))))⟩))))))))))))⟩)))))))))⟩))))))))))))⟩)))))))))))))
  · exact .inr ⟨hg1, hg2⟩
  · show 0 < 2 * S.q + 1
    omega
  walk_at "nf24"
  refine sa_seq ?_
  refine sa_asgO (ln_ rfl) (vn_lc1 (iw_list rfl (vl_var rfl ⟨_, rfl, ⟨(fur1 S rec t s).map dTr, rfl, ln_ rfl, ?_, fun k d r hd hr' => ?_⟩⟩)))
  case refine_2 =>
    have go : ∃ o : Of, d = dOf o ∧ r = dTr (reO rec o, t, s) := match k, hd, hr' with
      | 0, hd, hr' => ⟨⟨_, _, _⟩, (Option.some.inj hd).symm, (Option.some.inj hr').symm⟩
      | 1, hd, hr' => ⟨⟨_, _, _⟩, (Option.some.inj hd).symm, (Option.some.inj hr').symm⟩
      | 2, hd, hr' => ⟨⟨_, _, _⟩, (Option.some.inj hd).symm, (Option.some.inj hr').symm⟩
      | 3, hd, hr' => ⟨⟨_, _, _⟩, (Option.some.inj hd).symm, (Option.some.inj hr').symm⟩
      | 4, hd, hr' => ⟨⟨_, _, _⟩, (Option.some.inj hd).symm, (Option.some.inj hr').symm⟩
      | 5, hd, hr' => ⟨⟨_, _, _⟩, (Option.some.inj hd).symm, (Option.some.inj hr').symm⟩
      | k + 6, hd, _ => nomatch hd
    obtain ⟨o, rfl, rfl⟩ := go
    exact ⟨rfl, rfl, vl_tup (va_cons (vl_tup (va_cons (vl_var rfl (va_cons (vl_var rfl (va_cons (vl_var rfl (va_cons (vl_var rfl (va_nil ⟨fl_ rfl, ln_ rfl, (va_cons (vl_var rfl (va_cons (vl_var rfl (va_nil ⟨fl_ rfl, ln_ rfl, rfl⟩)))))⟩)))))))))))⟩
  walk_at "nf24o"
  refine sa_seq ?_
  refine sa_for (iw_tup (vl_tup (va_cons (vl_tup (va_cons (vl_op (vl_op (vl_var rfl (vl_int (op_ixT rfl (vl_var rfl (op_I0 (va_cons (vl_op (vl_var rfl (vl_int (op_ixT rfl (va_cons (vl_op (vl_var rfl (vl_int (op_ixT rfl (va_nil ⟨fl_ rfl, ln_ rfl, (va_cons (vl_tup (va_cons (vl_op (vl_var rfl (vl_int (op_ixT rfl (va_cons (vl_int (va_cons (vl_op (vl_var rfl (vl_int (op_ixT rfl (va_nil ⟨fl_ rfl, ln_ rfl, (va_cons (vl_tup (va_cons (vl_op (vl_var rfl (vl_int (op_ixT rfl (va_cons (vl_op (vl_var rfl (vl_int (op_ixT rfl (va_cons (vl_neg (vl_int ⟨_, rfl, (va_nil ⟨fl_ rfl, ln_ rfl, (va_nil ⟨fl_ rfl, ln_ rfl, ⟨_, rfl, ⟨fun i e => ∃ y, e = eF S rec t s _ _ y none none none none none none (fur1 S rec t s ++ (fur2 S rec t s).take i), ⟨_, rfl⟩, fun i d e hd hI => ?_, fun e hI => ?_⟩⟩⟩)⟩)⟩)))))))))))))))⟩)))))))))))))))⟩)))))))))))))))))))))))
  · obtain ⟨y, rfl⟩ := hI
    have go : ∃ o : Pe, d = dPe o ∧ (fur2 S rec t s)[i]? = some (reP rec o, t, s) ∧ i < 3 := match i, hd with
      | 0, hd => ⟨⟨_, _, _⟩, (Option.some.inj hd).symm, rfl, by omega⟩
      | 1, hd => ⟨⟨_, _, _⟩, (Option.some.inj hd).symm, rfl, by omega⟩
      | 2, hd => ⟨⟨_, _, _⟩, (Option.some.inj hd).symm, rfl, by omega⟩
      | k + 3, hd => nomatch hd
    obtain ⟨o, rfl, ho, hi⟩ := go
    refine ga_name (.inl rfl) ?_
    walk_at "nf24o"
    refine sa_append rfl ?_ (vl_tup (va_cons (vl_tup (va_cons (vl_var rfl (va_cons (vl_var rfl (va_cons (vl_var rfl (va_cons (vl_var rfl (va_nil ⟨fl_ rfl, ln_ rfl, (va_cons (vl_var rfl (va_cons (vl_var rfl (va_nil ⟨fl_ rfl, ln_ rfl, ⟨rfl, ?_⟩⟩)))))⟩))))))))))))
    · rw [List.length_map, List.length_append, List.length_take]
      have : (fur1 S rec t s).length = 6 := rfl
      omega
    exact ⟨_, own_eq (apx ho)⟩
  obtain ⟨y, rfl⟩ := hI
  have eT : fur1 S rec t s ++ (fur2 S rec t s).take 3 = fur1 S rec t s ++ fur2 S rec t s := rfl
  show Sa _ _ _ _ (eF S rec t s _ _ y none none none none none none (fur1 S rec t s ++ (fur2 S rec t s).take 3)) _
  rw [eT]
  clear eT
  refine sa_seq ?_
  refine sa_for (iw_tup (vl_tup (va_cons (vl_op (vl_op (vl_var rfl (vl_int (op_ixT rfl (vl_var rfl (op_I0 (va_cons (vl_op (vl_var rfl (vl_op (vl_var rfl (vl_int (op_ixT rfl (op_I0 (va_cons (vl_int (va_nil ⟨fl_ rfl, ln_ rfl, ⟨_, rfl, ⟨fun i e => ∃ z, e = eF S rec t s _ _ y z none none none none none ((fur1 S rec t s ++ fur2 S rec t s) ++ (fur3 S rec t s).take i), ⟨_, own_eq (by rw [List.take_zero, List.append_nil])⟩, fun i d e hd hI => ?_, fun e hI => ?_⟩⟩⟩)))))))))))))))))))))
  · obtain ⟨z, rfl⟩ := hI
    have go : ∃ o : Int, d = .int o ∧ (fur3 S rec t s)[i]? = some (rec, tiA t o, s) ∧ i < 3 := match i, hd with
      | 0, hd => ⟨_, (Option.some.inj hd).symm, rfl, by omega⟩
      | 1, hd => ⟨_, (Option.some.inj hd).symm, rfl, by omega⟩
      | 2, hd => ⟨_, (Option.some.inj hd).symm, rfl, by omega⟩
      | k + 3, hd => nomatch hd
    obtain ⟨o, rfl, ho, hi⟩ := go
    refine ga_name (.inl rfl) ?_
    walk_at "nf24o"
    refine sa_append rfl ?_ (vl_tup (va_cons (vl_var rfl (va_cons (vl_op (vl_tup (va_cons (vl_var rfl (va_nil ⟨fl_ rfl, ln_ rfl, (vl_slT (vl_var rfl ⟨_, rfl, (vo_some (vl_int ⟨_, rfl, (vo_none (op_catD (ln_ rfl) (va_cons (vl_var rfl (va_nil ⟨fl_ rfl, ln_ rfl, ⟨rfl, ?_⟩⟩)))))⟩))⟩))⟩)))))))))
    · rw [List.length_map, List.length_append, List.length_append, List.length_take]
      have : (fur1 S rec t s).length = 6 := rfl
      have : (fur2 S rec t s).length = 3 := rfl
      omega
    exact ⟨_, own_eq (apx ho)⟩
  obtain ⟨z, rfl⟩ := hI
  show Sa _ _ _ _ (eF S rec t s _ _ y z none none none none none (fur1 S rec t s ++ fur2 S rec t s ++ fur3 S rec t s)) _
  refine sa_seq ?_
  refine sa_append rfl (ln_ rfl) (vl_tup (va_cons (vl_var rfl (va_cons (vl_op (vl_slT (vl_var rfl ⟨_, rfl, (vo_none (vo_some (vl_int ⟨_, rfl, (vl_tup (va_cons (vl_op (vl_op (vl_var rfl (vl_int (op_ixT rfl (vl_var rfl (op_I0 (va_nil ⟨fl_ rfl, ln_ rfl, (op_catD (ln_ rfl) (va_cons (vl_var rfl (va_nil ⟨fl_ rfl, ln_ rfl, ⟨rfl, ?_⟩⟩))))⟩))))))))))⟩)))⟩)))))))
  show Sa _ _ _ _ (eF S rec t s _ _ y z none none none none none (fur1 S rec t s ++ fur2 S rec t s ++ fur3 S rec t s ++ fur4 S rec t s)) _
  refine sa_seq ?_
  refine sa_asg (vl_var rfl (ga_tup rfl (gs_name (gs_name (gs_nil ?_)))))
  walk_at "nf24o"
  refine sa_seq ?_
  refine sa_append rfl (ln_ rfl) (vl_tup (va_cons (vl_var rfl (va_cons (vl_var rfl (va_cons (vl_tup (va_cons (vl_op (vl_int1 (vl_op (vl_var rfl (vl_int (op_I0 (.inl ⟨_, rfl, (vl_var rfl (op_I ?_ (va_cons (vl_var rfl (va_nil ⟨fl_ rfl, ln_ rfl, (va_nil ⟨fl_ rfl, ln_ rfl, ⟨rfl, ?_⟩⟩)⟩)))))⟩)))))))))))))))
  · show 0 < S.q
    omega
  show Sa _ _ _ _ (eF S rec t s _ _ y z (some (.int s.d)) (some (.tuple [.int s.r0, .int s.r1, .int s.r2, .int s.r3])) none none none (fur1 S rec t s ++ fur2 S rec t s ++ fur3 S rec t s ++ fur4 S rec t s ++ fur5 S rec t s)) _
  generalize hL : fur1 S rec t s ++ fur2 S rec t s ++ fur3 S rec t s ++ fur4 S rec t s ++ fur5 S rec t s = L
  have hLl : L.length = 14 := by rw [← hL]; rfl
  refine sa_seq ?_
  refine sa_for (iw_range (vl_int ⟨_, rfl, by decide, by decide, ⟨fun i e => ∃ y1 y2 y3, e = eF S rec t s _ _ y z (some (.int s.d)) (some (.tuple [.int s.r0, .int s.r1, .int s.r2, .int s.r3])) y1 y2 y3 (L ++ fur6 S rec t s i), ⟨_, _, _, own_eq (by rw [show fur6 S rec t s 0 = [] from rfl, List.append_nil])⟩, fun i d e hd hI => ?_, fun e hI => ?_⟩⟩))
  · obtain ⟨y1, y2, y3, rfl⟩ := hI
    have e6 : ∀ k, (L ++ fur6 S rec t s k) ++ ((furK S.q s k).map fun s' => ((rec, t, s') : Tr)) = L ++ fur6 S rec t s (k + 1) := fun k => by
      show _ = L ++ (furS S.q s k ++ furK S.q s k).map _
      rw [List.map_append, List.append_assoc]
      rfl
    have l6 : ∀ k, (fur6 S rec t s k).length = 3 * k := fun k => by
      induction k with
      | zero => rfl
      | succ k ih =>
        have := congrArg List.length (e6 k)
        rw [List.length_append, List.length_append, List.length_append, ih] at this
        have h3 : ((furK S.q s k).map fun s' => ((rec, t, s') : Tr)).length = 3 := rfl
        omega
    have hi : i < 4 := by
      have := (List.getElem?_eq_some_iff.mp hd).1
      simpa using this
    have hi4 : i = 0 ∨ i = 1 ∨ i = 2 ∨ i = 3 := by omega
    have hd' : d = .int (i : Int) := by
      rw [List.getElem?_map, List.getElem?_range (show i < Int.toNat 4 from hi)] at hd
      exact (Option.some.inj hd).symm
    subst hd'
    refine ga_name (.inl rfl) ?_
    walk_at "nf24o"
    refine sa_for (iw_tup (vl_tup (va_cons (vl_int (va_cons (vl_var rfl (va_cons (vl_op (vl_int (vl_var rfl (op_I0 (va_nil ⟨fl_ rfl, ln_ rfl, ⟨_, rfl, ⟨fun j e => ∃ y2 y3, e = eF S rec t s _ _ y z (some (.int s.d)) (some (.tuple [.int s.r0, .int s.r1, .int s.r2, .int s.r3])) (some (.int (i : Int))) y2 y3 ((L ++ fur6 S rec t s i) ++ ((furK S.q s i).map fun s' => ((rec, t, s') : Tr)).take j), ⟨_, _, own_eq (by rw [List.take_zero, List.append_nil])⟩, fun j d e hd hI => ?_, fun e hI => ?_⟩⟩⟩))))))))))))
    · obtain ⟨y2, y3, rfl⟩ := hI
      have hj : j < 3 := (List.getElem?_eq_some_iff.mp hd).1
      have hlen : (((L ++ fur6 S rec t s i) ++ ((furK S.q s i).map fun s' => ((rec, t, s') : Tr)).take j).map dTr).length < 100000 := by
        rw [List.length_map, List.length_append, List.length_append, hLl, l6, List.length_take]
        omega
      obtain rfl | rfl | rfl : j = 0 ∨ j = 1 ∨ j = 2 := by omega
      all_goals
        have hd' := Option.some.inj hd
        subst hd'
        refine ga_name (.inl rfl) ?_
        walk_at "nf24o"
        refine sa_seq ?_
        obtain rfl | rfl | rfl | rfl := hi4
      all_goals
        refine sa_asg (vl_op (vl_op (vl_var rfl (vl_var rfl (op_ixT rfl (vl_var rfl (op_I0 (ga_name (.inl rfl) ?_))))))))
        walk_at "nf24o"
        refine sa_seq ?_
        refine sa_if (vt_test (vl_op (vl_var rfl (vl_int (op_eqI ⟨_, rfl, ⟨fun h => ?_, fun h => ?_⟩⟩)))))
      all_goals
        first
        | (exact absurd (of_decide_eq_true h) (by omega))
        | (exact absurd (of_decide_eq_false h) (by decide))
        | skip
      all_goals
        first
        | (refine sa_next ?_
           refine sa_append rfl hlen (vl_tup (va_cons (vl_var rfl (va_cons (vl_var rfl (va_cons (vl_tup (va_cons (vl_var rfl (va_cons (vl_op (vl_op (vl_slT (vl_var rfl ⟨_, rfl, (vo_none (vo_some (vl_var rfl ⟨_, rfl, (vl_tup (va_cons (vl_var rfl (va_nil ⟨fl_ rfl, ln_ rfl, (op_catD (ln_ rfl) (vl_slT (vl_var rfl ⟨_, rfl, (vo_some (vl_op (vl_var rfl (vl_int (op_I0 ⟨_, rfl, (vo_none (op_catD (ln_ rfl) (va_nil ⟨fl_ rfl, ln_ rfl, (va_nil ⟨fl_ rfl, ln_ rfl, ⟨rfl, ?_⟩⟩)⟩)))⟩)))))⟩)))⟩))))⟩)))⟩))))))))))))))
           exact ⟨_, _, own_eq (apx' rfl rfl)⟩)
        | (refine sa_asg (vl_op (vl_int1 (vl_var rfl (.inl ⟨_, rfl, (vl_var rfl (op_I (show 0 < S.q by omega) (ga_name (.inl rfl) ?_)))⟩))))
           walk_at "nf24o"
           refine sa_append rfl hlen (vl_tup (va_cons (vl_var rfl (va_cons (vl_var rfl (va_cons (vl_tup (va_cons (vl_var rfl (va_cons (vl_op (vl_op (vl_slT (vl_var rfl ⟨_, rfl, (vo_none (vo_some (vl_var rfl ⟨_, rfl, (vl_tup (va_cons (vl_var rfl (va_nil ⟨fl_ rfl, ln_ rfl, (op_catD (ln_ rfl) (vl_slT (vl_var rfl ⟨_, rfl, (vo_some (vl_op (vl_var rfl (vl_int (op_I0 ⟨_, rfl, (vo_none (op_catD (ln_ rfl) (va_nil ⟨fl_ rfl, ln_ rfl, (va_nil ⟨fl_ rfl, ln_ rfl, ⟨rfl, ?_⟩⟩)⟩)))⟩)))))⟩)))⟩))))⟩)))⟩))))))))))))))
           exact ⟨_, _, own_eq (apx' rfl rfl)⟩)
    · obtain ⟨y2, y3, rfl⟩ := hI
      refine ⟨_, _, _, own_eq ?_⟩
      show ((L ++ fur6 S rec t s i) ++ ((furK S.q s i).map fun s' => ((rec, t, s') : Tr)).take 3).map dTr = _
      rw [List.take_of_length_le (Nat.le_refl 3), e6]
  · obtain ⟨y1, y2, y3, rfl⟩ := hI
    refine sa_retO rfl ?_
    rw [← hL]
    rfl
end
end Ck
set_option Elab.async false
set_option linter.all false
set_option autoImplicit false
set_option maxRecDepth 100000
set_option maxHeartbeats 2000000
/-! Ma6: no further paper and no spoilt one explains. -/
namespace Ck
open PySem Fw
section
variable {q : Int} {X : Xs} {x w : Int} {p : Pe} {c r tr : Int} {b : Bl} {d : Int}
theorem fm {α : Type} {P : α → Prop} {a : α} {l : List α} (h : P a) (k : ∀ y ∈ l, P y) : ∀ y ∈ a :: l, P y := List.forall_mem_cons.mpr ⟨h, k⟩
theorem fm0 {α : Type} {P : α → Prop} : ∀ y ∈ ([] : List α), P y := fun _ h => nomatch h
theorem fma {α : Type} {P : α → Prop} {a l : List α} (h : ∀ y ∈ a, P y) (k : ∀ y ∈ l, P y) : ∀ y ∈ a ++ l, P y := fun y hy => (List.mem_append.mp hy).elim (h y) (k y)
theorem okPe_a {S : Su} {p : Pe} (h : 4 < p.a) : okPe S p = false := by
  cases hh : okPe S p with
  | false => rfl
  | true =>
    have := (okPe_inv hh).2.1
    omega
theorem okPe_z {S : Su} {p : Pe} (h : p.z < 0) : okPe S p = false := by
  cases hh : okPe S p with
  | false => rfl
  | true =>
    have := (okPe_inv hh).2.2
    omega
theorem E_pw {q k e m : Int} (G : Gq q) (hm : 0 ≤ m) : E q k * pw (E q e) m (2 * q + 1) % (2 * q + 1) = E q (k + e * m) := by
  rw [pw_E G e hm, E_mul G]
theorem fur_bad (h : SuOk (suX q X) X) (H : Hn (suX q X) X x w p c r tr b) (hd : 0 ≤ d ∧ d < q) :
    ∀ y ∈ furM (suX q X) (reH (suX q X) X x w p c r) (tiH (suX q X) X x w p b tr) (spH q p b d), Bad (suX q X) (E q (X.e * x)) y.1 y.2.1 y.2.2 := by
  have G : Gq q := h.G
  have hq := G.od.1
  have hq2 := G.od.2
  have er := fun k => E_rng G k
  have md : ∀ a : Int, 0 ≤ a % q ∧ a % q < q := fun a => mod_rng a q G.pos
  have hpe := okPe_inv H.pe
  have hp1 : 0 ≤ p.n ∧ p.n < q := hpe.1
  have ht : 0 ≤ tr ∧ tr < q := H.tr_ h
  have hi : ∀ k, isEl q (E q k + (2 * q + 1)) = false := fun k => isEl_hi (by have := er k; omega)
  have lo : ∀ k, isEl q (E q k - (2 * q + 1)) = false := fun k => isEl_lo (by have := er k; omega)
  have z0 : isEl q 0 = false := isEl_lo (Int.le_refl 0)
  refine fma (fma (fma (fma (fma ?_ ?_) ?_) ?_) ?_) ?_
  · refine fm (H.bad_o h (okOf_z (hi _))) (fm (H.bad_o h (okOf_a (lo _))) (fm (H.bad_o h (okOf_b z0)) (fm (H.bad_o h (okOf_z (isEl_neg G _))) (fm (H.bad_o h (okOf_b (hi _))) (fm ?_ fm0)))))
    have e1 : E q (mu X p * x) * E q X.e0 % (2 * q + 1) = E q (mu X p * x + X.e0) := E_mul G _ _
    have e2 : E q (mu X p * w) * pw (E q X.e0) ((0 - c) % q) (2 * q + 1) % (2 * q + 1) = E q (mu X p * w + X.e0 * ((0 - c) % q)) := E_pw G (md _).1
    show Bad (suX q X) _ ⟨p, ⟨E q (mu X p * x) * E q X.e0 % (2 * q + 1), E q (X.e * w), E q (mu X p * w) * pw (E q X.e0) ((0 - c) % q) (2 * q + 1) % (2 * q + 1)⟩, c, r⟩ _ _
    rw [e1, e2]
    exact H.bad_oz h h.n0
  · refine fm (H.bad_p h (okPe_n fun z => ?_)) (fm (H.bad_p h (okPe_a ?_)) (fm (H.bad_p h (okPe_z ?_)) fm0))
    · have z' : 0 ≤ p.n + q ∧ p.n + q < q := z
      omega
    · show (4 : Int) < 5
      decide
    · show (-1 : Int) < 0
      decide
  · exact fm (H.bad_A h (hi _)) (fm (H.bad_A h (isEl_neg G _)) (fm (H.bad_A h z0) fm0))
  · refine fm (H.bad_t h fun z => ?_) fm0
    have z' : 0 ≤ tr - q ∧ tr - q < q := z
    omega
  · exact fm (H.bad_d1 h hd) fm0
  · have up : ∀ a : Int, ¬ (0 ≤ a % q + q ∧ a % q + q < q) := fun a => by
      have := md a
      omega
    have dn : ∀ a : Int, ¬ (0 ≤ a % q + (0 - q) ∧ a % q + (0 - q) < q) := fun a => by
      have := md a
      omega
    exact fm (H.bad_a0 h hd) (fm (H.bad_d h (.inr (.inl (up _)))) (fm (H.bad_d h (.inr (.inl (dn _))))
      (fm (H.bad_a1 h hd) (fm (H.bad_d h (.inr (.inr (.inl (up _))))) (fm (H.bad_d h (.inr (.inr (.inl (dn _)))))
      (fm (H.bad_a2 h hd) (fm (H.bad_d h (.inr (.inr (.inr (.inl (up _)))))) (fm (H.bad_d h (.inr (.inr (.inr (.inl (dn _))))))
      (fm (H.bad_a3 h hd) (fm (H.bad_d h (.inr (.inr (.inr (.inr (up _)))))) (fm (H.bad_d h (.inr (.inr (.inr (.inr (dn _)))))) fm0)))))))))))
theorem spo_bad (h : SuOk (suX q X) X) (H : Hn (suX q X) X x w p c r tr b) (hd : 0 ≤ d ∧ d < q) {way m : Int} {a3 a5 : Nat} (hw : 0 ≤ way ∧ way < 6) (hm : 0 < m ∧ m < q) :
    Bad (suX q X) (E q (X.e * x)) (spoM (suX q X) (reH (suX q X) X x w p c r) (tiH (suX q X) X x w p b tr) way m a3 a5).1 (spoM (suX q X) (reH (suX q X) X x w p c r) (tiH (suX q X) X x w p b tr) way m a3 a5).2 (spH q p b d) := by
  have G : Gq q := h.G
  have hmn : m % q ≠ 0 := lt_ne hm.1 hm.2
  have hen : X.e * m % q ≠ 0 := mul_ne (S := suX q X) G h.n hmn
  have ep : ∀ k, E q k * pw (E q X.e) m (2 * q + 1) % (2 * q + 1) = E q (k + X.e * m) := fun k => E_pw G (by omega)
  unfold spoM
  split
  · exact H.bad_cm h hmn
  · split
    · exact H.bad_rm h hmn
    · split
      · match a3 with
        | 0 =>
          show Bad (suX q X) _ ⟨p, ⟨E q (mu X p * x) * pw (E q X.e) m (2 * q + 1) % (2 * q + 1), E q (X.e * w), E q (mu X p * w)⟩, c, r⟩ _ _
          rw [ep]
          exact H.bad_oz h hen
        | 1 =>
          show Bad (suX q X) _ ⟨p, ⟨E q (mu X p * x), E q (X.e * w) * pw (E q X.e) m (2 * q + 1) % (2 * q + 1), E q (mu X p * w)⟩, c, r⟩ _ _
          rw [ep]
          exact H.bad_oa h hen
        | k + 2 =>
          show Bad (suX q X) _ ⟨p, ⟨E q (mu X p * x), E q (X.e * w), E q (mu X p * w) * pw (E q X.e) m (2 * q + 1) % (2 * q + 1)⟩, c, r⟩ _ _
          rw [ep]
          exact H.bad_ob h hen
      · split
        · exact H.bad_c0 h
        · split
          · exact H.bad_tm h hd hmn
          · match a5 with
            | 0 =>
              show Bad (suX q X) _ _ ⟨E q (mu X p * b.s) * pw (E q X.e) m (2 * q + 1) % (2 * q + 1), E q (sig X b), E q (mu X p * x * b.s), E q (X.e * w * b.u + X.e * b.v), E q (mu X p * w * (b.s * b.u) + mu X p * b.s * b.v), tr⟩ _
              rw [ep]
              exact H.bad_t0 h hd hen
            | 1 =>
              show Bad (suX q X) _ _ ⟨E q (mu X p * b.s), E q (sig X b) * pw (E q X.e) m (2 * q + 1) % (2 * q + 1), E q (mu X p * x * b.s), E q (X.e * w * b.u + X.e * b.v), E q (mu X p * w * (b.s * b.u) + mu X p * b.s * b.v), tr⟩ _
              rw [ep]
              exact H.bad_t1 h hd hen
            | 2 =>
              show Bad (suX q X) _ _ ⟨E q (mu X p * b.s), E q (sig X b), E q (mu X p * x * b.s) * pw (E q X.e) m (2 * q + 1) % (2 * q + 1), E q (X.e * w * b.u + X.e * b.v), E q (mu X p * w * (b.s * b.u) + mu X p * b.s * b.v), tr⟩ _
              rw [ep]
              exact H.bad_t2 h hd hen
            | 3 =>
              show Bad (suX q X) _ _ ⟨E q (mu X p * b.s), E q (sig X b), E q (mu X p * x * b.s), E q (X.e * w * b.u + X.e * b.v) * pw (E q X.e) m (2 * q + 1) % (2 * q + 1), E q (mu X p * w * (b.s * b.u) + mu X p * b.s * b.v), tr⟩ _
              rw [ep]
              exact H.bad_t3 h hd hen
            | k + 4 =>
              show Bad (suX q X) _ _ ⟨E q (mu X p * b.s), E q (sig X b), E q (mu X p * x * b.s), E q (X.e * w * b.u + X.e * b.v), E q (mu X p * w * (b.s * b.u) + mu X p * b.s * b.v) * pw (E q X.e) m (2 * q + 1) % (2 * q + 1), tr⟩ _
              rw [ep]
              exact H.bad_t4 h hd hen
end
end Ck
set_option Elab.async false
set_option linter.all false
set_option autoImplicit false
set_option maxRecDepth 100000
set_option maxHeartbeats 4000000
/-! P12: the law's row. -/
namespace Ck
open PySem PySem.Spec PyProof.Rows L2 Fw Evl
theorem u_expl_some {P : PyData → Prop} {R : Er → Prop} {S : Su} {key : Int} {rec : Re} {t : Ti} {sp : Sp} {b : Bl} (h : Pre S rec.p t) (e : explainM S key rec t sp = some b) (k : P (dBl b)) : ∃ r, F_explain_ticket [dSu S, .int key, dRe rec, dTi t, dSp sp] r ∧ (∀ d, r = .ok d → P d) ∧ (∀ er, r = .error er → R er) := u_explain_ticket h (by rw [e]; exact k)
theorem u_expl_none {P : PyData → Prop} {R : Er → Prop} {S : Su} {key : Int} {rec : Re} {t : Ti} {sp : Sp} (h : Bad S key rec t sp) (k : P .none) : ∃ r, F_explain_ticket [dSu S, .int key, dRe rec, dTi t, dSp sp] r ∧ (∀ d, r = .ok d → P d) ∧ (∀ er, r = .error er → R er) := u_explain_ticket h.1 (by rw [h.2]; exact k)
structure RwOk (q : Int) (X : Xs) (x : Int) (ros : List Ro) (o : Ro) (ns : List Int) : Prop where
  h : SuOk (suX q X) X
  x : x % q ≠ 0
  rs : ∀ r ∈ ros, RoOk q X r
  o : RoOk q X o
  l : 4 ≤ ns.length
def F_law_row (ds : List PyData) (r : Except Er PyData) : Prop := ∃ (q : Int) (X : Xs) (x : Int) (ros : List Ro) (o : Ro) (ns : List Int), ds = [dSu (suX q X), .int (E q (X.e * x)), .list (ros.map (fun o => dRo q X x o)), dRo q X x o, dL ns] ∧ RwOk q X x ros o ns ∧ r = .ok (.bool true)
theorem l_law_row (ds : List PyData) (r : Except Er PyData) (h : F_law_row ds r) : ds.length = 5 := by obtain ⟨_, _, _, _, _, _, rfl, _⟩ := h; rfl
theorem u_law_row {P : PyData → Prop} {R : Er → Prop} {q : Int} {X : Xs} {x : Int} {ros : List Ro} {o : Ro} {ns : List Int} (h : RwOk q X x ros o ns) (k : P (.bool true)) : ∃ r, F_law_row [dSu (suX q X), .int (E q (X.e * x)), .list (ros.map (fun o => dRo q X x o)), dRo q X x o, dL ns] r ∧ (∀ d, r = .ok d → P d) ∧ (∀ er, r = .error er → R er) := use0 ⟨_, _, _, _, _, _, rfl, h, rfl⟩ k
theorem cut_mem {xs : List PyData} {lo hi : Option Int} {d : PyData} (h : d ∈ Fw.cutD xs lo hi) : d ∈ xs := List.mem_of_mem_drop (List.mem_of_mem_take h)
abbrev eR (q : Int) (X : Xs) (x : Int) (ros : List Ro) (o : Ro) (ns : List Int) (d : Int) (y12 y13 y14 y15 y16 y17 y18 y19 y20 y21 y22 y23 : Option PyData) : En :=
  ⟨[some (dSu (suX q X)), some (.int (E q (X.e * x))), some (.list (ros.map (fun o => dRo q X x o))), some (dRo q X x o), some (dL ns), some (.int q), some (dRe (reR q X x o)), some (dTi (tiR q X x o)), some (dBl o.b), some (.int d), some (dSp (spH q o.p o.b d)), some (dSp (spH q o.p o.b ((d + 1) % q))), y12, y13, y14, y15, y16, y17, y18, y19, y20, y21, y22, y23], none⟩
local macro_rules | `(tactic| walk_at "nf24") => `(tactic| show Sa _ _ _ _ ⟨[_, _, _, _, _, _, _, _, _, _, _, _, _, _, _, _, _, _, _, _, _, _, _, _], none⟩ _)
local macro_rules | `(tactic| walk_at "nf24o") => `(tactic| show Sa _ _ _ _ ⟨[_, _, _, _, _, _, _, _, _, _, _, _, _, _, _, _, _, _, _, _, _, _, _, _], some (19, _)⟩ _)
section
variable {P : Program} {w : World} {K : PySem.W.Frag} {mg : Str → Option Value} {base : Heap} {ea : Er → Addr} {CE : Addr}
/-! ### _law_row -/
abbrev n_law_row : List Str := ["_law_setup_here", "_law_key", "_law_rows", "_law_row_here", "_law_numbers_here", "_law_q", "_law_record", "_law_ticket", "_law_blinding_here", "_law_d", "_law_spend_here", "_law_second", "_law_other", "_law_told", "_law_person_here", "_law_offer", "_law_c", "_law_r", "_law_one", "_law_far", "_law_further_here", "_law_at", "_law_bad", "_law_changed"]
theorem sc_law_row : FnScope n_law_row ["_law_setup_here", "_law_key", "_law_rows", "_law_row_here", "_law_numbers_here"] (defScope slaw_row) := ⟨rfl, rfl, rfl, by decide +kernel, rfl, by decide +kernel, by decide +kernel⟩
theorem ok_law_row (T : Tx K mg ea CE) (c_explain_ticket : Callee P w K mg base CX0 10 "explain_ticket" (spF K ea F_explain_ticket)) (c_law_spend : Callee P w K mg base CX0 1 "_law_spend" (spF K ea F_law_spend)) (c_law_in_range : Callee P w K mg base CX0 1 "_law_in_range" (spF K ea F_law_in_range)) (c_law_leads : Callee P w K mg base CX0 10 "_law_leads" (spF K ea F_law_leads)) (c_law_spoilt : Callee P w K mg base CX0 2 "_law_spoilt" (spF K ea F_law_spoilt)) (c_law_further : Callee P w K mg base CX0 2 "_law_further" (spN K F_law_further)) {f : Addr} {fd : FuncData} (G : FnP K "_law_row" slaw_row f fd) (hm : mg "_law_row" = some (.ref f)) : Callee P w K mg base CX0 11 "_law_row" (spF K ea F_law_row) := by
  refine okV (k := 10) G hm sc_law_row ?len (fun _ _ _ _ _ _ us hl => match us, hl with | [_, _, _, _, _], _ => rfl) fun cdv A outer s H _E hr => ?_
  case len => exact l_law_row
  refine ⟨_, (pss_cons (ps_set (i := 5) sc_law_row.nd rfl (.inl rfl) (pe_ix (ixT (K := K) rfl) (pv 0) pe_int (fun _ _ => rfl)))
      (pss_cons (ps_asg (pv 3) (pg_tup rfl (pgs_cons (pg_name (i := 6) sc_law_row.nd rfl (.inl rfl)) (pgs_cons (pg_name (i := 7) sc_law_row.nd rfl (.inl rfl)) (pgs_cons (pg_name (i := 8) sc_law_row.nd rfl (.inl rfl)) pgs_nil)))))
      (pss_cons (ps_set (i := 9) sc_law_row.nd rfl (.inl rfl) (pe_op op_mod (pe_callTy call_int1 rfl T.fint boot_int (pa_cons (pe_ix (ixL (K := K) rfl) (pv 4) pe_int (fun _ _ => rfl)) pa_nil)) (pv 5)))
      (pss_cons (ps_set (i := 10) sc_law_row.nd rfl (.inl rfl) (c_law_spend.c0 (W := W0) (hr.mono (by decide)) rfl (pa_cons (pv 5) (pa_cons (pe_ix (ixT (K := K) rfl) (pv 6) pe_int (fun _ _ => rfl)) (pa_cons (pv 8) (pa_cons (pv 9) pa_nil))))))
      (pss_cons (ps_set (i := 11) sc_law_row.nd rfl (.inl rfl) (c_law_spend.c0 (W := W0) (hr.mono (by decide)) rfl (pa_cons (pv 5) (pa_cons (pe_ix (ixT (K := K) rfl) (pv 6) pe_int (fun _ _ => rfl)) (pa_cons (pv 8) (pa_cons (pe_op op_mod (pe_callTy call_int1 rfl T.fint boot_int (pa_cons (pe_op op_add (pv 9) pe_int) pa_nil)) (pv 5)) pa_nil))))))
      (pss_cons (ps_if (pt_cmpR (op_neD (hu64 hr)) (c_explain_ticket.c0 (W := W0) hr rfl (pa_cons (pv 0) (pa_cons (pv 1) (pa_cons (pv 6) (pa_cons (pv 7) (pa_cons (pv 10) pa_nil)))))) (pv 8) (nomark _)) (pss_one (ps_ret pe_bl)) pss_nil)
      (pss_cons (ps_for PassesOwn.never rfl (pi_list (pv 2)) (pg_name (i := 12) sc_law_row.nd rfl (.inl rfl)) (pss_cons (ps_set (i := 13) sc_law_row.nd rfl (.inl rfl) (c_explain_ticket.c0 (W := W0) hr rfl (pa_cons (pv 0) (pa_cons (pv 1) (pa_cons (pe_ix (ixT (K := K) rfl) (pv 12) pe_int (fun _ _ => rfl)) (pa_cons (pv 7) (pa_cons (pv 10) pa_nil)))))))
      (pss_cons (ps_if (PW.pt (pw_or (pt_cmp (pc_isN (pv 13))) (pw_or (pt_not (pt_val (c_law_in_range.c0 (W := W0) (hr.mono (by decide)) rfl (pa_cons (pv 5) (pa_cons (pv 13) pa_nil))))) (pw_or1 (pt_not (pt_val (c_law_leads.c0 (W := W0) hr rfl (pa_cons (pv 0) (pa_cons (pv 1) (pa_cons (pe_ix (ixT (K := K) rfl) (pv 12) pe_int (fun _ _ => rfl)) (pa_cons (pv 7) (pa_cons (pv 10) (pa_cons (pv 13) pa_nil))))))))))))) (pss_one (ps_ret pe_bl)) pss_nil)
      (pss_one (ps_if (pt_cmpR op_ne (pe_cmpR (op_eqD (hu64 hr)) (c_law_spend.c0 (W := W0) (hr.mono (by decide)) rfl (pa_cons (pv 5) (pa_cons (pe_ix (ixT (K := K) rfl) (pe_ix (ixT (K := K) rfl) (pv 12) pe_int (fun _ _ => rfl)) pe_int (fun _ _ => rfl)) (pa_cons (pv 13) (pa_cons (pe_op op_mod (pe_callTy call_int1 rfl T.fint boot_int (pa_cons (pe_op op_add (pv 9) pe_int) pa_nil)) (pv 5)) pa_nil))))) (pv 11) (nomark _)) (pe_cmpR (op_eqD (hu64 hr)) (pe_ix (ixT (K := K) rfl) (pe_ix (ixT (K := K) rfl) (pv 12) pe_int (fun _ _ => rfl)) pe_int (fun _ _ => rfl)) (pe_ix (ixT (K := K) rfl) (pv 6) pe_int (fun _ _ => rfl)) (nomark _)) (nomark _)) (pss_one (ps_ret pe_bl)) pss_nil)))))
      (pss_cons (ps_asg (pv 6) (pg_tup rfl (pgs_cons (pg_name (i := 14) sc_law_row.nd rfl (.inl rfl)) (pgs_cons (pg_name (i := 15) sc_law_row.nd rfl (.inl rfl)) (pgs_cons (pg_name (i := 16) sc_law_row.nd rfl (.inl rfl)) (pgs_cons (pg_name (i := 17) sc_law_row.nd rfl (.inl rfl)) pgs_nil))))))
      (pss_cons (ps_for PassesOwn.never rfl (pi_tup (pe_tup (pa_cons (pe_tup (pa_cons (pv 14) (pa_cons (pv 15) (pa_cons (pe_op op_add (pv 16) (pv 5)) (pa_cons (pv 17) pa_nil))))) (pa_cons (pe_tup (pa_cons (pv 14) (pa_cons (pv 15) (pa_cons (pe_op op_sub (pv 16) (pv 5)) (pa_cons (pv 17) pa_nil))))) (pa_cons (pe_tup (pa_cons (pv 14) (pa_cons (pv 15) (pa_cons (pv 16) (pa_cons (pe_op op_add (pv 17) (pv 5)) pa_nil))))) (pa_cons (pe_tup (pa_cons (pv 14) (pa_cons (pv 15) (pa_cons (pv 16) (pa_cons (pe_op op_sub (pv 17) (pv 5)) pa_nil))))) (pa_cons (pe_tup (pa_cons (pv 14) (pa_cons (pv 15) (pa_cons (pe_op op_add (pv 16) (pe_op op_mul pe_int (pv 5))) (pa_cons (pv 17) pa_nil))))) (pa_cons (pe_tup (pa_cons (pv 14) (pa_cons (pv 15) (pa_cons (pv 16) (pa_cons (pe_op op_sub (pv 17) (pe_op op_mul pe_int (pv 5))) pa_nil))))) (pa_cons (pe_tup (pa_cons (pe_op op_catA (pe_tup (pa_cons (pe_op op_sub (pe_ix (ixT (K := K) rfl) (pv 14) pe_int (fun _ _ => rfl)) (pv 5)) pa_nil)) (pe_slice sl_tupA (pv 14) (po_some pe_int) po_none)) (pa_cons (pv 15) (pa_cons (pv 16) (pa_cons (pv 17) pa_nil))))) (pa_cons (pe_tup (pa_cons (pe_op op_catA (pe_tup (pa_cons (pe_op op_add (pe_ix (ixT (K := K) rfl) (pv 14) pe_int (fun _ _ => rfl)) (pv 5)) pa_nil)) (pe_slice sl_tupA (pv 14) (po_some pe_int) po_none)) (pa_cons (pv 15) (pa_cons (pv 16) (pa_cons (pv 17) pa_nil))))) pa_nil)))))))))) (pg_name (i := 18) sc_law_row.nd rfl (.inl rfl)) (pss_one (ps_if (pt_cmp (pc_notN (c_explain_ticket.c0 (W := W0) hr rfl (pa_cons (pv 0) (pa_cons (pv 1) (pa_cons (pv 18) (pa_cons (pv 7) (pa_cons (pv 10) pa_nil)))))))) (pss_one (ps_ret pe_bl)) pss_nil)))
      (pss_cons (ps_set (i := 19) sc_law_row.nd rfl (.inl rfl) (pe_lst (pa_cons (pe_tup (pa_cons (pe_op op_catA (pe_slice sl_tupA (pv 7) po_none (po_some pe_int)) (pe_tup (pa_cons (pe_op op_add (pe_ix (ixT (K := K) rfl) (pv 7) pe_int (fun _ _ => rfl)) (pv 5)) pa_nil))) (pa_cons (pv 10) pa_nil))) (pa_cons (pe_tup (pa_cons (pv 7) (pa_cons (pe_tup (pa_cons (pe_op op_add (pe_ix (ixT (K := K) rfl) (pv 10) pe_int (fun _ _ => rfl)) (pv 5)) (pa_cons (pe_ix (ixT (K := K) rfl) (pv 10) pe_int (fun _ _ => rfl)) pa_nil))) pa_nil))) (pa_cons (pe_tup (pa_cons (pv 7) (pa_cons (pe_tup (pa_cons (pe_op op_sub (pe_ix (ixT (K := K) rfl) (pv 10) pe_int (fun _ _ => rfl)) (pv 5)) (pa_cons (pe_ix (ixT (K := K) rfl) (pv 10) pe_int (fun _ _ => rfl)) pa_nil))) pa_nil))) pa_nil)))))
      (pss_cons (ps_expr (pe_bm PySem.F.plainAttrs_list PySem.F.slot_list_append PySem.F.type_list_append mt_append (pv 19) (pa_cons (pe_tup (pa_cons (pv 7) (pa_cons (pe_tup (pa_cons (pe_ix (ixT (K := K) rfl) (pv 10) pe_int (fun _ _ => rfl)) (pa_cons (pe_op op_catA (pe_slice sl_tupA (pe_ix (ixT (K := K) rfl) (pv 10) pe_int (fun _ _ => rfl)) po_none (po_some pe_int)) (pe_tup (pa_cons (pe_op op_add (pe_ix (ixT (K := K) rfl) (pe_ix (ixT (K := K) rfl) (pv 10) pe_int (fun _ _ => rfl)) pe_int (fun _ _ => rfl)) (pv 5)) pa_nil))) pa_nil))) pa_nil))) pa_nil)))
      (pss_cons (ps_for PassesOwn.never rfl (pi_list (pv 19)) (pg_name (i := 18) sc_law_row.nd rfl (.inl rfl)) (pss_one (ps_if (pt_cmp (pc_notN (c_explain_ticket.c0 (W := W0) hr rfl (pa_cons (pv 0) (pa_cons (pv 1) (pa_cons (pv 6) (pa_cons (pe_ix (ixT (K := K) rfl) (pv 18) pe_int (fun _ _ => rfl)) (pa_cons (pe_ix (ixT (K := K) rfl) (pv 18) pe_int (fun _ _ => rfl)) pa_nil)))))))) (pss_one (ps_ret pe_bl)) pss_nil)))
      (pss_cons (ps_set (i := 20) sc_law_row.nd rfl (.inl rfl) (c_law_further.c0 (W := W0) (hr.mono (by decide)) rfl (pa_cons (pv 0) (pa_cons (pv 6) (pa_cons (pv 7) (pa_cons (pv 10) pa_nil))))))
      (pss_cons (ps_set (i := 21) sc_law_row.nd rfl (.inl rfl) (pe_op op_mod (pe_callTy call_int1 rfl T.fint boot_int (pa_cons (pe_ix (ixL (K := K) rfl) (pv 4) pe_int (fun _ _ => rfl)) pa_nil)) (pe_callB call_len_seq rfl T.flen boot_len (pa_cons (pv 20) pa_nil))))
      (pss_cons (ps_for PassesOwn.never rfl (pi_list (pe_slice sl_list (pe_op op_cat (pv 20) (pv 20)) (po_some (pv 21)) (po_some (pe_op op_add (pv 21) pe_int)))) (pg_name (i := 18) sc_law_row.nd rfl (.inl rfl)) (pss_one (ps_if (pt_cmp (pc_notN (c_explain_ticket.c0 (W := W0) hr rfl (pa_cons (pv 0) (pa_cons (pv 1) (pa_cons (pe_ix (ixT (K := K) rfl) (pv 18) pe_int (fun _ _ => rfl)) (pa_cons (pe_ix (ixT (K := K) rfl) (pv 18) pe_int (fun _ _ => rfl)) (pa_cons (pe_ix (ixT (K := K) rfl) (pv 18) pe_int (fun _ _ => rfl)) pa_nil)))))))) (pss_one (ps_ret pe_bl)) pss_nil)))
      (pss_cons (ps_asg (c_law_spoilt.c0 (W := W0) (hr.mono (by decide)) rfl (pa_cons (pv 0) (pa_cons (pv 6) (pa_cons (pv 7) (pa_cons (pe_slice sl_list (pv 4) (po_some pe_int) po_none) pa_nil))))) (pg_tup rfl (pgs_cons (pg_name (i := 22) sc_law_row.nd rfl (.inl rfl)) (pgs_cons (pg_name (i := 23) sc_law_row.nd rfl (.inl rfl)) pgs_nil))))
      (pss_one (ps_ret (pe_cmp (pc_isN (c_explain_ticket.c0 (W := W0) hr rfl (pa_cons (pv 0) (pa_cons (pv 1) (pa_cons (pv 22) (pa_cons (pv 23) (pa_cons (pv 10) pa_nil)))))))))))))))))))))))))), fun ds r hF => ?_⟩
  obtain ⟨q, X, x, ros, o, ns, rfl, ⟨h, hx, hrs, ho, hl⟩, rfl⟩ := hF
  have GG : Gq q := h.G
  have hq1 := GG.od.1
  have hq2 := GG.od.2
  have md : ∀ a : Int, 0 ≤ a % q ∧ a % q < q := fun a => mod_rng a q GG.pos
  have hn := ho.hn h hx
  have hpe := okPe_inv ho.2.1
  have hpn : 0 ≤ o.p.n ∧ o.p.n < q := hpe.1
  refine sa_seq ?_
  refine sa_asg (vl_op (vl_var rfl (vl_int (op_ixT rfl (ga_name (.inl rfl) ?_)))))
  walk_at "nf24"
  refine sa_seq ?_
  refine sa_asg (vl_var rfl (ga_tup rfl (gs_name (gs_name (gs_name (gs_nil ?_))))))
  walk_at "nf24"
  refine sa_seq ?_
  refine sa_asg (vl_op (vl_int1 (vl_op (vl_var rfl (vl_int (op_ixL (at_ns 0 (by omega) rfl) (.inl ⟨_, rfl, (vl_var rfl (op_I ?_ (ga_name (.inl rfl) ?_)))⟩)))))))
  · exact GG.pos
  walk_at "nf24"
  refine sa_seq ?_
  have hd := md (nn ns 0)
  have hd1 := md (nn ns 0 % q + 1)
  refine sa_asg (vl_call (va_cons (vl_var rfl (va_cons (vl_op (vl_var rfl (vl_int (op_ixT rfl (va_cons (vl_var rfl (va_cons (vl_var rfl (va_nil (u_law_spend ⟨GG.od, hd, hpe⟩ (ga_name (.inl rfl) ?_)))))))))))))))
  walk_at "nf24"
  refine sa_seq ?_
  refine sa_asg (vl_call (va_cons (vl_var rfl (va_cons (vl_op (vl_var rfl (vl_int (op_ixT rfl (va_cons (vl_var rfl (va_cons (vl_op (vl_int1 (vl_op (vl_var rfl (vl_int (op_I0 (.inl ⟨_, rfl, (vl_var rfl (op_I ?_ (va_nil (u_law_spend ⟨GG.od, hd1, hpe⟩ (ga_name (.inl rfl) ?_)))))⟩))))))))))))))))))
  · exact GG.pos
  walk_at "nf24"
  revert hd hd1
  generalize nn ns 0 % q = d
  intro hd hd1
  show Sa _ _ _ _ (eR q X x ros o ns d none none none none none none none none none none none none) _
  have hown := (ld_pos h (hn.own h hd)).1
  have hpre : ∀ p, Pre (suX q X) p (tiR q X x o) := fun p => pre_E h p _ _ _ _ _ _
  refine sa_seq ?_
  refine sa_if (vt_test (vl_op (vl_call (va_cons (vl_var rfl (va_cons (vl_var rfl (va_cons (vl_var rfl (va_cons (vl_var rfl (va_cons (vl_var rfl (va_nil (u_expl_some (hpre _) hown (vl_var rfl (op_neDt rfl rfl (sh_Bl _) (sh_Bl _) ⟨_, rfl, ⟨fun hh => ?_, fun hh => ?_⟩⟩)))))))))))))))))
  · rw [eqv_Bl, decide_eq_true rfl] at hh
    cases hh
  clear hh
  refine sa_next ?_
  refine sa_seq ?_
  refine sa_for (iw_list rfl (vl_var rfl ⟨_, rfl, ⟨fun i e => ∃ y1 y2, e = eR q X x ros o ns d y1 y2 none none none none none none none none none none, ⟨_, _, rfl⟩, fun i dd e hdd hI => ?_, fun e hI => ?_⟩⟩))
  · obtain ⟨y1, y2, rfl⟩ := hI
    rw [List.getElem?_map] at hdd
    cases hro : ros[i]? with
    | none => rw [hro] at hdd; cases hdd
    | some o2 =>
      rw [hro] at hdd
      have hdd' := Option.some.inj hdd
      subst hdd'
      have ho2 := hrs o2 (List.mem_of_getElem? hro)
      have hn2 := ho2.hn h hx
      obtain ⟨b2, ld⟩ := hn.other h hn2 hd
      obtain ⟨p1, p2, p3, p4⟩ := ld_pos h ld
      have hsec := hn.second h hn2 hd ld
      have hpe2 := okPe_inv ho2.2.1
      refine ga_name (.inl rfl) ?_
      walk_at "nf24"
      refine sa_seq ?_
      refine sa_asg (vl_call (va_cons (vl_var rfl (va_cons (vl_var rfl (va_cons (vl_op (vl_var rfl (vl_int (op_ixT rfl (va_cons (vl_var rfl (va_cons (vl_var rfl (va_nil (u_expl_some (rec := reR q X x o2) (hpre _) p1 (ga_name (.inl rfl) ?_)))))))))))))))))
      walk_at "nf24"
      refine sa_seq ?_
      refine sa_if (vt_or (vt_B (vl_isN (vl_var rfl ⟨_, rfl, ⟨fun h => (vt_or (vt_not (vt_B (vl_call (va_cons (vl_var rfl (va_cons (vl_var rfl (va_nil (u_law_in_range (S := suX q X) ld.bl ⟨_, rfl, ⟨fun h => (vt_not (vt_B (vl_call (va_cons (vl_var rfl (va_cons (vl_var rfl (va_cons (vl_op (vl_var rfl (vl_int (op_ixT rfl (va_cons (vl_var rfl (va_cons (vl_var rfl (va_cons (vl_var rfl (va_nil (u_law_leads (rec := reR q X x o2) (t := tiR q X x o) ⟨GG.od, p2, p3, p4⟩ ⟨_, rfl, ⟨(fun h => nomatch h), fun h => ?_⟩⟩)))))))))))))))))))), (fun h => nomatch h)⟩⟩)))))))))), (fun h => nomatch h)⟩⟩))))
      refine sa_next ?_
      refine sa_if (vt_test (vl_op (vl_op (vl_call (va_cons (vl_var rfl (va_cons (vl_op (vl_op (vl_var rfl (vl_int (op_ixT rfl (vl_int (op_ixT rfl (va_cons (vl_var rfl (va_cons (vl_op (vl_int1 (vl_op (vl_var rfl (vl_int (op_I0 (.inl ⟨_, rfl, (vl_var rfl (op_I GG.pos (va_nil (u_law_spend (p := o2.p) ⟨GG.od, hd1, hpe2⟩ (vl_var rfl (op_eqDt rfl rfl (sh_Sp _) (sh_Sp _) (vl_op (vl_op (vl_op (vl_var rfl (vl_int (op_ixT rfl (vl_int (op_ixT rfl (vl_op (vl_var rfl (vl_int (op_ixT rfl (op_eqDt rfl rfl (sh_Pe _) (sh_Pe _) (op_neB ⟨_, rfl, ⟨fun hh => ?_, fun hh => ?_⟩⟩))))))))))))))))))))⟩))))))))))))))))))))))))
      · rw [eqv_Sp, eqv_Pe] at hh
        have he : decide (spH q o2.p b2 ((d + 1) % q) = spH q o.p o.b ((d + 1) % q)) = decide (o2.p = o.p) := decide_eq_decide.mpr hsec
        rw [he, decide_eq_true rfl] at hh
        cases hh
      · exact sa_next ⟨_, _, rfl⟩
  obtain ⟨y12, y13, rfl⟩ := hI
  refine sa_seq ?_
  refine sa_asg (vl_var rfl (ga_tup rfl (gs_name (gs_name (gs_name (gs_name (gs_nil ?_)))))))
  have hc : 0 ≤ cH q X x o.w o.p o.b ∧ cH q X x o.w o.p o.b < q := hn.cr
  have hr' : 0 ≤ rH q X x o.w o.p o.b ∧ rH q X x o.w o.p o.b < q := hn.rr h
  have ht : 0 ≤ tH q X x o.w o.p o.b ∧ tH q X x o.w o.p o.b < q := hn.tr_ h
  show Sa _ _ _ _ (eR q X x ros o ns d y12 y13 (some (dPe o.p)) (some (dOf (ofH (suX q X) X x o.w o.p))) (some (.int (cH q X x o.w o.p o.b))) (some (.int (rH q X x o.w o.p o.b))) none none none none none none) _
  have h2q : CMul 2 q := .inl ⟨by decide, by decide⟩
  refine sa_seq ?_
  refine sa_for (iw_tup (vl_tup (va_cons (vl_tup (va_cons (vl_var rfl (va_cons (vl_var rfl (va_cons (vl_op (vl_var rfl (vl_var rfl (op_I0 (va_cons (vl_var rfl (va_nil ⟨fl_ rfl, ln_ rfl, (va_cons (vl_tup (va_cons (vl_var rfl (va_cons (vl_var rfl (va_cons (vl_op (vl_var rfl (vl_var rfl (op_I0 (va_cons (vl_var rfl (va_nil ⟨fl_ rfl, ln_ rfl, (va_cons (vl_tup (va_cons (vl_var rfl (va_cons (vl_var rfl (va_cons (vl_var rfl (va_cons (vl_op (vl_var rfl (vl_var rfl (op_I0 (va_nil ⟨fl_ rfl, ln_ rfl, (va_cons (vl_tup (va_cons (vl_var rfl (va_cons (vl_var rfl (va_cons (vl_var rfl (va_cons (vl_op (vl_var rfl (vl_var rfl (op_I0 (va_nil ⟨fl_ rfl, ln_ rfl, (va_cons (vl_tup (va_cons (vl_var rfl (va_cons (vl_var rfl (va_cons (vl_op (vl_var rfl (vl_op (vl_int (vl_var rfl (op_I h2q (op_I0 (va_cons (vl_var rfl (va_nil ⟨fl_ rfl, ln_ rfl, (va_cons (vl_tup (va_cons (vl_var rfl (va_cons (vl_var rfl (va_cons (vl_var rfl (va_cons (vl_op (vl_var rfl (vl_op (vl_int (vl_var rfl (op_I h2q (op_I0 (va_nil ⟨fl_ rfl, ln_ rfl, (va_cons (vl_tup (va_cons (vl_op (vl_tup (va_cons (vl_op (vl_op (vl_var rfl (vl_int (op_ixT rfl (vl_var rfl (op_I0 (va_nil ⟨fl_ rfl, ln_ rfl, (vl_slT (vl_var rfl ⟨_, rfl, (vo_some (vl_int ⟨_, rfl, (vo_none (op_catD (ln_ rfl) (va_cons (vl_var rfl (va_cons (vl_var rfl (va_cons (vl_var rfl (va_nil ⟨fl_ rfl, ln_ rfl, (va_cons (vl_tup (va_cons (vl_op (vl_tup (va_cons (vl_op (vl_op (vl_var rfl (vl_int (op_ixT rfl (vl_var rfl (op_I0 (va_nil ⟨fl_ rfl, ln_ rfl, (vl_slT (vl_var rfl ⟨_, rfl, (vo_some (vl_int ⟨_, rfl, (vo_none (op_catD (ln_ rfl) (va_cons (vl_var rfl (va_cons (vl_var rfl (va_cons (vl_var rfl (va_nil ⟨fl_ rfl, ln_ rfl, (va_nil ⟨fl_ rfl, ln_ rfl, ⟨_, rfl, ⟨fun i e => ∃ y, e = eR q X x ros o ns d y12 y13 (some (dPe o.p)) (some (dOf (ofH (suX q X) X x o.w o.p))) (some (.int (cH q X x o.w o.p o.b))) (some (.int (rH q X x o.w o.p o.b))) y none none none none none, ⟨_, rfl⟩, fun i dd e hdd hI => ?_, fun e hI => ?_⟩⟩⟩)⟩)))))))))⟩))⟩))⟩))))))))))))))⟩)))))))))⟩))⟩))⟩))))))))))))))⟩)))))))))))))))))⟩)))))))))))))))))⟩))))))))))))))⟩))))))))))))))⟩))))))))))))))⟩))))))))))))))))
  · obtain ⟨y, rfl⟩ := hI
    have go : ∃ rec : Re, dd = dRe rec ∧ Bad (suX q X) (E q (X.e * x)) rec (tiR q X x o) (spH q o.p o.b d) := by
      have hmem := List.mem_of_getElem? hdd
      clear hdd
      revert dd
      refine fm ⟨reH (suX q X) X x o.w o.p (cH q X x o.w o.p o.b + q) (rH q X x o.w o.p o.b), rfl, hn.bad_c h ?_⟩
        (fm ⟨reH (suX q X) X x o.w o.p (cH q X x o.w o.p o.b - q) (rH q X x o.w o.p o.b), rfl, hn.bad_c h ?_⟩
        (fm ⟨reH (suX q X) X x o.w o.p (cH q X x o.w o.p o.b) (rH q X x o.w o.p o.b + q), rfl, hn.bad_r h ?_⟩
        (fm ⟨reH (suX q X) X x o.w o.p (cH q X x o.w o.p o.b) (rH q X x o.w o.p o.b - q), rfl, hn.bad_r h ?_⟩
        (fm ⟨reH (suX q X) X x o.w o.p (cH q X x o.w o.p o.b + 2 * q) (rH q X x o.w o.p o.b), rfl, hn.bad_c h ?_⟩
        (fm ⟨reH (suX q X) X x o.w o.p (cH q X x o.w o.p o.b) (rH q X x o.w o.p o.b - 2 * q), rfl, hn.bad_r h ?_⟩
        (fm ⟨⟨⟨o.p.n - q, o.p.a, o.p.z⟩, ofH (suX q X) X x o.w o.p, cH q X x o.w o.p o.b, rH q X x o.w o.p o.b⟩, rfl, hn.bad_p h (okPe_n ?_)⟩
        (fm ⟨⟨⟨o.p.n + q, o.p.a, o.p.z⟩, ofH (suX q X) X x o.w o.p, cH q X x o.w o.p o.b, rH q X x o.w o.p o.b⟩, rfl, hn.bad_p h (okPe_n ?_)⟩ fm0)))))))
      · show ¬ (0 ≤ cH q X x o.w o.p o.b + q ∧ cH q X x o.w o.p o.b + q < q)
        omega
      · show ¬ (0 ≤ cH q X x o.w o.p o.b - q ∧ cH q X x o.w o.p o.b - q < q)
        omega
      · show ¬ (0 ≤ rH q X x o.w o.p o.b + q ∧ rH q X x o.w o.p o.b + q < q)
        omega
      · show ¬ (0 ≤ rH q X x o.w o.p o.b - q ∧ rH q X x o.w o.p o.b - q < q)
        omega
      · show ¬ (0 ≤ cH q X x o.w o.p o.b + 2 * q ∧ cH q X x o.w o.p o.b + 2 * q < q)
        omega
      · show ¬ (0 ≤ rH q X x o.w o.p o.b - 2 * q ∧ rH q X x o.w o.p o.b - 2 * q < q)
        omega
      · show ¬ (0 ≤ o.p.n - q ∧ o.p.n - q < q)
        omega
      · show ¬ (0 ≤ o.p.n + q ∧ o.p.n + q < q)
        omega
    obtain ⟨rec, rfl, hb⟩ := go
    refine ga_name (.inl rfl) ?_
    walk_at "nf24"
    refine sa_if (vt_B (vl_notN (vl_call (va_cons (vl_var rfl (va_cons (vl_var rfl (va_cons (vl_var rfl (va_cons (vl_var rfl (va_cons (vl_var rfl (va_nil (u_expl_none hb ⟨_, rfl, ⟨(fun h => nomatch h), fun h => ?_⟩⟩)))))))))))))))
    exact sa_next ⟨_, rfl⟩
  obtain ⟨y18, rfl⟩ := hI
  refine sa_seq ?_
  refine sa_asgO (ln_ rfl) (vn_lst (va_cons (vl_tup (va_cons (vl_op (vl_slT (vl_var rfl ⟨_, rfl, (vo_none (vo_some (vl_int ⟨_, rfl, (vl_tup (va_cons (vl_op (vl_op (vl_var rfl (vl_int (op_ixT rfl (vl_var rfl (op_I0 (va_nil ⟨fl_ rfl, ln_ rfl, (op_catD (ln_ rfl) (va_cons (vl_var rfl (va_nil ⟨fl_ rfl, ln_ rfl, (va_cons (vl_tup (va_cons (vl_var rfl (va_cons (vl_tup (va_cons (vl_op (vl_op (vl_var rfl (vl_int (op_ixT rfl (vl_var rfl (op_I0 (va_cons (vl_op (vl_var rfl (vl_int (op_ixT rfl (va_nil ⟨fl_ rfl, ln_ rfl, (va_nil ⟨fl_ rfl, ln_ rfl, (va_cons (vl_tup (va_cons (vl_var rfl (va_cons (vl_tup (va_cons (vl_op (vl_op (vl_var rfl (vl_int (op_ixT rfl (vl_var rfl (op_I0 (va_cons (vl_op (vl_var rfl (vl_int (op_ixT rfl (va_nil ⟨fl_ rfl, ln_ rfl, (va_nil ⟨fl_ rfl, ln_ rfl, (va_nil ⟨fl_ rfl, ln_ rfl, ?_⟩)⟩)⟩))))))))))))))))))))⟩)⟩))))))))))))))))))))⟩))))⟩))))))))))⟩)))⟩)))))))
  walk_at "nf24o"
  refine sa_seq ?_
  refine sa_append rfl (ln_ rfl) (vl_tup (va_cons (vl_var rfl (va_cons (vl_tup (va_cons (vl_op (vl_var rfl (vl_int (op_ixT rfl (va_cons (vl_op (vl_slT (vl_op (vl_var rfl (vl_int (op_ixT rfl ⟨_, rfl, (vo_none (vo_some (vl_int ⟨_, rfl, (vl_tup (va_cons (vl_op (vl_op (vl_op (vl_var rfl (vl_int (op_ixT rfl (vl_int (op_ixT rfl (vl_var rfl (op_I0 (va_nil ⟨fl_ rfl, ln_ rfl, (op_catD (ln_ rfl) (va_nil ⟨fl_ rfl, ln_ rfl, (va_nil ⟨fl_ rfl, ln_ rfl, ⟨rfl, ?_⟩⟩)⟩))⟩)))))))))))))⟩)))⟩)))))))))))))))))
  refine sa_freeze rfl (ln_ rfl) ?_
  walk_at "nf24"
  generalize hfar : ([_, _, _] ++ [_] : List PyData) = far
  refine sa_seq ?_
  refine sa_for (iw_list rfl (vl_var rfl ⟨_, rfl, ⟨fun i e => ∃ y, e = eR q X x ros o ns d y12 y13 (some (dPe o.p)) (some (dOf (ofH (suX q X) X x o.w o.p))) (some (.int (cH q X x o.w o.p o.b))) (some (.int (rH q X x o.w o.p o.b))) y (some (.list far)) none none none none, ⟨_, rfl⟩, fun i dd e hdd hI => ?_, fun e hI => ?_⟩⟩))
  · obtain ⟨y, rfl⟩ := hI
    have go : ∃ (t2 : Ti) (s2 : Sp), dd = .tuple [dTi t2, dSp s2] ∧ Bad (suX q X) (E q (X.e * x)) (reR q X x o) t2 s2 := by
      have hmem := List.mem_of_getElem? hdd
      clear hdd
      subst hfar
      revert dd
      refine fm ⟨tiH (suX q X) X x o.w o.p o.b (tH q X x o.w o.p o.b + q), spH q o.p o.b d, rfl, hn.bad_t h ?_⟩
        (fm ⟨tiR q X x o, ⟨d + q, (spH q o.p o.b d).r0, (spH q o.p o.b d).r1, (spH q o.p o.b d).r2, (spH q o.p o.b d).r3⟩, rfl, hn.bad_d h (.inl ?_)⟩
        (fm ⟨tiR q X x o, ⟨d - q, (spH q o.p o.b d).r0, (spH q o.p o.b d).r1, (spH q o.p o.b d).r2, (spH q o.p o.b d).r3⟩, rfl, hn.bad_d h (.inl ?_)⟩
        (fm ⟨tiR q X x o, ⟨d, (spH q o.p o.b d).r0, (spH q o.p o.b d).r1, (spH q o.p o.b d).r2, (spH q o.p o.b d).r3 + q⟩, rfl, hn.bad_d h (.inr (.inr (.inr (.inr ?_))))⟩ fm0)))
      · show ¬ (0 ≤ tH q X x o.w o.p o.b + q ∧ tH q X x o.w o.p o.b + q < q)
        omega
      · show ¬ (0 ≤ d + q ∧ d + q < q)
        omega
      · show ¬ (0 ≤ d - q ∧ d - q < q)
        omega
      · have := md (o.b.x3 + d * o.b.s * o.p.z)
        show ¬ (0 ≤ (o.b.x3 + d * o.b.s * o.p.z) % q + q ∧ (o.b.x3 + d * o.b.s * o.p.z) % q + q < q)
        omega
    obtain ⟨t2, s2, rfl, hb⟩ := go
    refine ga_name (.inl rfl) ?_
    walk_at "nf24"
    refine sa_if (vt_B (vl_notN (vl_call (va_cons (vl_var rfl (va_cons (vl_var rfl (va_cons (vl_var rfl (va_cons (vl_op (vl_var rfl (vl_int (op_ixT rfl (va_cons (vl_op (vl_var rfl (vl_int (op_ixT rfl (va_nil (u_expl_none (rec := reR q X x o) (t := t2) (sp := s2) hb ⟨_, rfl, ⟨(fun h => nomatch h), fun h => ?_⟩⟩)))))))))))))))))))))
    exact sa_next ⟨_, rfl⟩
  obtain ⟨y18, rfl⟩ := hI
  clear hfar
  refine sa_seq ?_
  have hg := E_rng GG X.e0
  refine sa_asgN (vn_call (va_cons (vl_var rfl (va_cons (vl_var rfl (va_cons (vl_var rfl (va_cons (vl_var rfl (va_nil (u_law_further (S := suX q X) (rec := reR q X x o) (t := tiR q X x o) (s := spH q o.p o.b d) ⟨GG.od, by show -(2 ^ 64) < E q X.e0; omega, by show E q X.e0 < 2 ^ 64; omega⟩ ?_)))))))))))
  walk_at "nf24"
  have hfb := fur_bad h hn hd
  have hfl := fur_len (suX q X) (reR q X x o) (tiR q X x o) (spH q o.p o.b d)
  generalize furM (suX q X) (reR q X x o) (tiR q X x o) (spH q o.p o.b d) = fur at hfb hfl
  refine sa_seq ?_
  refine sa_asg (vl_op (vl_int1 (vl_op (vl_var rfl (vl_int (op_ixL (at_ns 2 (by omega) rfl) (.inl ⟨_, rfl, (vl_len (vl_var rfl (.inl ⟨_, rfl, (op_I ?_ (ga_name (.inl rfl) ?_))⟩)))⟩)))))))
  · show 0 < ((fur.map dTr).length : Int)
    rw [List.length_map, hfl]
    decide
  walk_at "nf24"
  refine sa_seq ?_
  refine sa_for (iw_list rfl (vl_vn (vn_slL (vl_vn (vn_cat (vl_var rfl ⟨_, rfl, (vl_var rfl ⟨_, rfl, ?_, ⟨_, rfl, (vo_some (vl_var rfl ⟨_, rfl, (vo_some (vl_op (vl_var rfl (vl_int (op_I0 ⟨_, rfl, ⟨_, rfl, ⟨fun i e => ∃ y, e = eR q X x ros o ns d y12 y13 (some (dPe o.p)) (some (dOf (ofH (suX q X) X x o.w o.p))) (some (.int (cH q X x o.w o.p o.b))) (some (.int (rH q X x o.w o.p o.b))) y (some (.list far)) (some (.list (fur.map dTr))) _ none none, ⟨_, rfl⟩, fun i dd e hdd hI => ?_, fun e hI => ?_⟩⟩⟩)))))⟩))⟩⟩)⟩))))))
  · rw [List.length_map, hfl]
    decide
  · obtain ⟨y, rfl⟩ := hI
    have hmem := cut_mem (List.mem_of_getElem? hdd)
    have hmem2 : dd ∈ fur.map dTr := (List.mem_append.mp hmem).elim id id
    obtain ⟨yy, hy, rfl⟩ := List.mem_map.mp hmem2
    have hb := hfb yy hy
    refine ga_name (.inl rfl) ?_
    walk_at "nf24"
    refine sa_if (vt_B (vl_notN (vl_call (va_cons (vl_var rfl (va_cons (vl_var rfl (va_cons (vl_op (vl_var rfl (vl_int (op_ixT rfl (va_cons (vl_op (vl_var rfl (vl_int (op_ixT rfl (va_cons (vl_op (vl_var rfl (vl_int (op_ixT rfl (va_nil (u_expl_none (rec := yy.1) (t := yy.2.1) (sp := yy.2.2) hb ⟨_, rfl, ⟨(fun h => nomatch h), fun h => ?_⟩⟩))))))))))))))))))))))))
    exact sa_next ⟨_, rfl⟩
  obtain ⟨y18, rfl⟩ := hI
  refine sa_seq ?_
  refine sa_asg (vl_call (va_cons (vl_var rfl (va_cons (vl_var rfl (va_cons (vl_var rfl (va_cons (vl_vn (vn_slN (vl_var rfl ⟨_, rfl, (vl_int ⟨_, 1, rfl, rfl, by omega, (va_nil (u_law_spoilt (S := suX q X) (rec := reR q X x o) (t := tiR q X x o) (ns := ns.drop 1) ?_ (ga_tup rfl (gs_name (gs_name (gs_nil ?_))))))⟩)⟩)))))))))))
  · exact ⟨GG.od, by rw [List.length_drop]; omega⟩
  walk_at "nf24"
  have hm := mod_rng (nn (ns.drop 1) 1) (q - 1) (by omega)
  have hb := spo_bad h hn hd (way := nn (ns.drop 1) 0 % 6) (m := 1 + nn (ns.drop 1) 1 % (q - 1)) (a3 := (nn (ns.drop 1) 2 % 3).toNat) (a5 := (nn (ns.drop 1) 2 % 5).toNat) (mod_rng _ 6 (by decide)) ⟨by omega, by omega⟩
  refine sa_ret (vl_isN (vl_call (va_cons (vl_var rfl (va_cons (vl_var rfl (va_cons (vl_var rfl (va_cons (vl_var rfl (va_cons (vl_var rfl (va_nil (u_expl_none hb rfl))))))))))))))
end
end Ck
set_option Elab.async false
set_option linter.all false
set_option autoImplicit false
set_option maxRecDepth 100000
set_option maxHeartbeats 4000000
/-! P13: the law. -/
namespace Fw
open PySem PySem.Spec PyProof.Rows L2 Evl
section
variable {P : Program} {w : World} {K : PySem.W.Frag} {mg : Str → Option Value} {base : Heap} {ea : Er → Addr} {x : Str} {st : Stmt} {f : Addr} {fd : FuncData} {N ps : List Str} {k : Nat} {F : List PyData → Except Er PyData → Prop}
/-- as okV, of the function itself -/
theorem okF (G : FunD K x x (defArgs st) (defBody st) (defScope st) [] [] f fd) (hm : mg x = some (.ref f)) (S : FnScope N ps (defScope st)) (len : ∀ ds r, F ds r → ds.length = ps.length)
    (hb : ∀ (kV doc pm : Value) (an : Option Addr) (cdv ct : Value) (us : List Value), us.length = ps.length → bindArgs (PySem.W.fnOf x x (defArgs st) (defBody st) (defScope st) .none kV doc pm an cdv ct) ⟨us, []⟩ = pure (ps.zip us))
    (hbody : ∀ (cdv : Value) (A : Around) (outer : List Env) (s : Shared) (H : Hp) (E : XK), Room k (A.deeper (envOfC x (defScope st) s.heap.objs.size f cdv)) →
      ∃ t, PSs (cxOf CX0 P w K mg base N x (defScope st) f cdv A outer s H E).nox (defBody st) t ∧ ∀ ds r, F ds r → Sa K ea W0 t (stE N ds) (endV r)) : FnOk P w K mg base CX0 (k + 1) f fd ps (spF K ea F) := by
  refine G.ok S (fun vs H Q E h => ?_) fun cdv A outer s H vs Q E hr h => ?_
  · obtain ⟨ds, r, ra, hF, _⟩ := h
    rw [ra.length]
    exact len ds r hF
  · obtain ⟨ds, r, ra, hF, k1, k2⟩ := h
    obtain ⟨t, ht, hs⟩ := hbody cdv A outer s H E hr
    refine ⟨t, ht.nox, hs ds r hF H H _ _ ((ra.startR (by rw [len ds r hF]; exact scope_le S)).rs (Ex.refl H)) ⟨fun e σ H' q rs => k1 _ _ H' q rs.ex rp_none, fun _ _ _ q => q.elim, fun _ _ _ q => q.elim, fun d v H' q x r => k1 d v H' q x r, fun _ _ _ _ q => q.elim, fun _ _ _ q => q.elim⟩⟩
end
end Fw
namespace Ck
open PySem PySem.Spec PyProof.Rows L2 Fw Evl
def F_law (ds : List PyData) (r : Except Er PyData) : Prop := ∃ ns : List Int, ds = [scr ns] ∧ r = .ok (.bool true)
theorem l_law (ds : List PyData) (r : Except Er PyData) (h : F_law ds r) : ds.length = 1 := by obtain ⟨_, rfl, _⟩ := h; rfl
theorem keyM_E {q : Int} {X : Xs} {x : Int} (G : Gq q) (hx : 1 ≤ x ∧ x < q) : keyM (suX q X) x = .ok (E q (X.e * x)) := by
  unfold keyM
  have e : okSec (suX q X) x = true := by
    unfold okSec
    rw [decide_eq_true hx.1, decide_eq_true (show x < (suX q X).q from hx.2)]
    rfl
  rw [if_pos e]
  exact powerM_E G X.e x
theorem strange_ne {q x : Int} (hq : 11 ≤ q) (hx : 1 ≤ x ∧ x < q) : (1 ≤ 1 + x % (q - 1) ∧ 1 + x % (q - 1) < q) ∧ (1 + x % (q - 1) - x) % q ≠ 0 := by
  have hm := mod_rng x (q - 1) (by omega)
  refine ⟨by omega, fun z => ?_⟩
  have h2 : x % (q - 1) ≠ x - 1 := fun e => by
    by_cases h : x < q - 1
    · rw [Int.emod_eq_of_lt (by omega) h] at e
      omega
    · have : x = q - 1 := by omega
      subst this
      rw [Int.emod_self] at e
      omega
  have hd := Int.dvd_of_emod_eq_zero z
  obtain ⟨k, hk⟩ := hd
  have hk0 : k = 0 := by
    by_cases h1 : 1 ≤ k
    · have := Int.mul_le_mul_of_nonneg_left h1 (show 0 ≤ q by omega)
      omega
    · by_cases h2 : k ≤ -1
      · have := Int.mul_le_mul_of_nonneg_left h2 (show 0 ≤ q by omega)
        omega
      · omega
  rw [hk0, Int.mul_zero] at hk
  omega
abbrev eW (ss : List Int) (k : Int) (ns : List Int) (q : Int) (X : Xs) (x : Int) (ros : List Ro) (y7 y8 y9 y10 y11 y12 : Option PyData) : En :=
  ⟨[some (scr ss), some (.int k), some (dL ns), some (dSu (suX q X)), some (.int x), some (.int (E q (X.e * x))), some (.list (ros.map (fun o => dRo q X x o))), y7, y8, y9, y10, y11, y12], none⟩
local macro_rules | `(tactic| walk_at "nf13") => `(tactic| show Sa _ _ _ _ ⟨[_, _, _, _, _, _, _, _, _, _, _, _, _], none⟩ _)
section
variable {P : Program} {w : World} {K : PySem.W.Frag} {mg : Str → Option Value} {base : Heap} {ea : Er → Addr} {CE : Addr}
/-! ### law -/
abbrev n_law : List Str := ["_law_script", "_law_k", "_law_numbers_here", "_law_setup_here", "_law_secret", "_law_key", "_law_rows", "_law_at", "_law_strange", "_law_other", "_law_row_here", "_law_spend_here", "_law_used"]
theorem sc_law : FnScope n_law ["_law_script"] (defScope slaw) := ⟨rfl, rfl, rfl, by decide +kernel, rfl, by decide +kernel, by decide +kernel⟩
theorem ok_law (T : Tx K mg ea CE) (c_key_of : Callee P w K mg base (L2.CX P w) 5 "key_of" (spF K ea F_key_of)) (c_explain_ticket : Callee P w K mg base CX0 10 "explain_ticket" (spF K ea F_explain_ticket)) (c_law_cell : Callee P w K mg base CX0 1 "_law_cell" (spF K ea F_law_cell)) (c_law_numbers : Callee P w K mg base CX0 1 "_law_numbers" (spN K F_law_numbers)) (c_law_setup : Callee P w K mg base CX0 3 "_law_setup" (spF K ea F_law_setup)) (c_law_spend : Callee P w K mg base CX0 1 "_law_spend" (spF K ea F_law_spend)) (c_law_sessions : Callee P w K mg base CX0 5 "_law_sessions" (spN K F_law_sessions)) (c_law_row : Callee P w K mg base CX0 11 "_law_row" (spF K ea F_law_row)) {f : Addr} {fd : FuncData} (G : FnP K "law" slaw f fd) (hm : mg "law" = some (.ref f)) : FnOk P w K mg base CX0 12 f fd ["_law_script"] (spF K ea F_law) := by
  refine okF (k := 11) G hm sc_law ?len (fun _ _ _ _ _ _ us hl => match us, hl with | [_], _ => rfl) fun cdv A outer s H _E hr => ?_
  case len => exact l_law
  refine ⟨_, (pss_cons (ps_for PassesOwn.never rfl (pi_range1 rfl T.frange (pa_cons (pe_callB (call_max2 rfl) rfl T.fmax boot_max (pa_cons pe_int (pa_cons (pe_callB (call_min2 rfl) rfl T.fmin boot_min (pa_cons (pe_callB call_len_seq rfl T.flen boot_len (pa_cons (pv 0) pa_nil)) (pa_cons pe_int pa_nil))) pa_nil))) pa_nil)) (pg_name (i := 1) sc_law.nd rfl (.inl rfl)) (pss_cons (ps_set (i := 2) sc_law.nd rfl (.inl rfl) (c_law_numbers.c0 (W := W0) (hr.mono (by decide)) rfl (pa_cons (c_law_cell.c0 (W := W0) (hr.mono (by decide)) rfl (pa_cons (pv 0) (pa_cons (pv 1) pa_nil))) (pa_cons (pv 1) (pa_cons pe_int pa_nil)))))
      (pss_cons (ps_set (i := 3) sc_law.nd rfl (.inl rfl) (c_law_setup.c0 (W := W0) (hr.mono (by decide)) rfl (pa_cons (pv 2) (pa_cons (pe_ix (ixL (K := K) rfl) (pe_lst (pa_cons pe_int (pa_cons pe_int (pa_cons pe_int pa_nil)))) (pe_op op_mod (pe_callTy call_int1 rfl T.fint boot_int (pa_cons (pe_ix (ixL (K := K) rfl) (pv 2) pe_int (fun _ _ => rfl)) pa_nil)) pe_int) (fun _ _ => rfl)) pa_nil))))
      (pss_cons (ps_set (i := 4) sc_law.nd rfl (.inl rfl) (pe_op op_add pe_int (pe_op op_mod (pe_callTy call_int1 rfl T.fint boot_int (pa_cons (pe_ix (ixL (K := K) rfl) (pv 2) pe_int (fun _ _ => rfl)) pa_nil)) (pe_op op_sub (pe_ix (ixT (K := K) rfl) (pv 3) pe_int (fun _ _ => rfl)) pe_int))))
      (pss_cons (ps_set (i := 5) sc_law.nd rfl (.inl rfl) (c_key_of.cN (hr.mono (by decide)) rfl (pa_cons (pv 3) (pa_cons (pv 4) pa_nil))))
      (pss_cons (ps_set (i := 6) sc_law.nd rfl (.inl rfl) (c_law_sessions.c0 (W := W0) (hr.mono (by decide)) rfl (pa_cons (pv 3) (pa_cons (pv 4) (pa_cons (pe_slice sl_list (pv 2) (po_some pe_int) po_none) pa_nil)))))
      (pss_cons (ps_for PassesOwn.never rfl (pi_range1 rfl T.frange (pa_cons (pe_callB call_len_seq rfl T.flen boot_len (pa_cons (pv 6) pa_nil)) pa_nil)) (pg_name (i := 7) sc_law.nd rfl (.inl rfl)) (pss_one (ps_if (pt_not (pt_val (c_law_row.c0 (W := W0) hr rfl (pa_cons (pv 3) (pa_cons (pv 5) (pa_cons (pv 6) (pa_cons (pe_ix (ixL (K := K) rfl) (pv 6) (pv 7) (fun _ _ => rfl)) (pa_cons (pe_slice sl_list (pv 2) (po_some (pe_op op_add pe_int (pv 7))) po_none) pa_nil)))))))) (pss_one (ps_ret pe_bl)) pss_nil)))
      (pss_cons (ps_set (i := 8) sc_law.nd rfl (.inl rfl) (pe_op op_add pe_int (pe_op op_mod (pe_callTy call_int1 rfl T.fint boot_int (pa_cons (pv 4) pa_nil)) (pe_op op_sub (pe_ix (ixT (K := K) rfl) (pv 3) pe_int (fun _ _ => rfl)) pe_int))))
      (pss_one (ps_for PassesOwn.never rfl (pi_list (pe_slice sl_list (c_law_sessions.c0 (W := W0) (hr.mono (by decide)) rfl (pa_cons (pv 3) (pa_cons (pv 8) (pa_cons (pe_slice sl_list (pv 2) (po_some pe_int) po_none) pa_nil)))) po_none (po_some pe_int))) (pg_name (i := 9) sc_law.nd rfl (.inl rfl)) (pss_one (ps_for PassesOwn.never rfl (pi_list (pe_slice sl_list (pv 6) po_none (po_some pe_int))) (pg_name (i := 10) sc_law.nd rfl (.inl rfl)) (pss_cons (ps_set (i := 11) sc_law.nd rfl (.inl rfl) (c_law_spend.c0 (W := W0) (hr.mono (by decide)) rfl (pa_cons (pe_ix (ixT (K := K) rfl) (pv 3) pe_int (fun _ _ => rfl)) (pa_cons (pe_ix (ixT (K := K) rfl) (pe_ix (ixT (K := K) rfl) (pv 10) pe_int (fun _ _ => rfl)) pe_int (fun _ _ => rfl)) (pa_cons (pe_ix (ixT (K := K) rfl) (pv 10) pe_int (fun _ _ => rfl)) (pa_cons pe_int pa_nil))))))
      (pss_cons (ps_if (pt_cmp (pc_notN (c_explain_ticket.c0 (W := W0) (hr.mono (by decide)) rfl (pa_cons (pv 3) (pa_cons (c_key_of.cN (hr.mono (by decide)) rfl (pa_cons (pv 3) (pa_cons (pv 8) pa_nil))) (pa_cons (pe_ix (ixT (K := K) rfl) (pv 10) pe_int (fun _ _ => rfl)) (pa_cons (pe_ix (ixT (K := K) rfl) (pv 10) pe_int (fun _ _ => rfl)) (pa_cons (pv 11) pa_nil)))))))) (pss_one (ps_ret pe_bl)) pss_nil)
      (pss_one (ps_for PassesOwn.never rfl (pi_tup (pe_tup (pa_cons (pv 5) (pa_cons (c_key_of.cN (hr.mono (by decide)) rfl (pa_cons (pv 3) (pa_cons (pv 8) pa_nil))) pa_nil)))) (pg_name (i := 12) sc_law.nd rfl (.inl rfl)) (pss_one (ps_if (pt_cmp (pc_notN (c_explain_ticket.c0 (W := W0) (hr.mono (by decide)) rfl (pa_cons (pv 3) (pa_cons (pv 12) (pa_cons (pe_ix (ixT (K := K) rfl) (pv 9) pe_int (fun _ _ => rfl)) (pa_cons (pe_ix (ixT (K := K) rfl) (pv 10) pe_int (fun _ _ => rfl)) (pa_cons (pv 11) pa_nil)))))))) (pss_one (ps_ret pe_bl)) pss_nil))))))))))))))))))
      (pss_one (ps_ret pe_bl))), fun ds r hF => ?_⟩
  obtain ⟨ss, rfl, rfl⟩ := hF
  refine sa_seq ?_
  refine sa_for (iw_range (vl_max (vl_int ⟨_, rfl, (vl_min (vl_len (vl_var rfl (.inr (.inr ⟨ss, rfl, ⟨_, rfl, (vl_int ⟨_, rfl, ⟨_, rfl, ⟨_, rfl, ?_, ?_, ⟨fun i e => ∃ y1 y2 y3 y4 y5 y6 y7 y8 y9 y10 y11 y12, e = ⟨[some (scr ss), y1, y2, y3, y4, y5, y6, y7, y8, y9, y10, y11, y12], none⟩, ⟨_, _, _, _, _, _, _, _, _, _, _, _, rfl⟩, fun i d e hd hI => ?_, fun e hI => ?_⟩⟩⟩⟩)⟩⟩)))))⟩)))
  · show -(2 ^ 62) ≤ (if (if (2 : Int) < (ss.length : Int) then (2 : Int) else (ss.length : Int)) > 1 then (if (2 : Int) < (ss.length : Int) then (2 : Int) else (ss.length : Int)) else (1 : Int))
    split <;> split <;> omega
  · show (if (if (2 : Int) < (ss.length : Int) then (2 : Int) else (ss.length : Int)) > 1 then (if (2 : Int) < (ss.length : Int) then (2 : Int) else (ss.length : Int)) else (1 : Int)) < 2 ^ 62
    split <;> split <;> omega
  · obtain ⟨y1, y2, y3, y4, y5, y6, y7, y8, y9, y10, y11, y12, rfl⟩ := hI
    have hd' : ∃ k : Nat, d = .int (k : Int) := by
      rw [List.getElem?_map] at hd
      cases hx : (List.range (Int.toNat (if (if (2 : Int) < (ss.length : Int) then (2 : Int) else (ss.length : Int)) > 1 then (if (2 : Int) < (ss.length : Int) then (2 : Int) else (ss.length : Int)) else (1 : Int))))[i]? with
      | none => rw [hx] at hd; cases hd
      | some c => rw [hx] at hd; exact ⟨c, (Option.some.inj hd).symm⟩
    obtain ⟨k, rfl⟩ := hd'
    refine ga_name (.inl rfl) ?_
    walk_at "nf13"
    refine sa_seq ?_
    refine sa_asgN (vn_call (va_cons (vl_call (va_cons (vl_var rfl (va_cons (vl_var rfl (va_nil (u_law_cell (ns := ss) (by omega) (va_cons (vl_var rfl (va_cons (vl_int (va_nil (u_law_numbers (n := 70) (by decide) ?_)))))))))))))))
    walk_at "nf13"
    have hl := nums_len (cellM ss (k : Int)) (k : Int) 70
    generalize numsM (cellM ss (k : Int)) (k : Int) 70 = ns at hl
    have h60 : ∃ most, atI [PyData.int 40, .int 1013, .int 200] (nn ns 60 % 3) = some (.int most) ∧ 11 ≤ most ∧ most ≤ 1013 := by
      have := mod_rng (nn ns 60) 3 (by decide)
      revert this
      generalize nn ns 60 % 3 = a
      intro this
      obtain rfl | rfl | rfl : a = 0 ∨ a = 1 ∨ a = 2 := by omega
      · exact ⟨40, rfl, by decide, by decide⟩
      · exact ⟨1013, rfl, by decide, by decide⟩
      · exact ⟨200, rfl, by decide, by decide⟩
    obtain ⟨most, hmost, hmr⟩ := h60
    refine sa_seq ?_
    refine sa_asg (vl_call (va_cons (vl_var rfl (va_cons (vl_op (vl_vn (vn_lst (va_cons (vl_int (va_cons (vl_int (va_cons (vl_int (va_nil ⟨fl_ rfl, ln_ rfl, (vl_op (vl_int1 (vl_op (vl_var rfl (vl_int (op_ixL (at_ns 60 (by omega) rfl) (.inl ⟨_, rfl, (vl_int (op_I ?_ (op_ixL hmost (va_nil (u_law_setup ⟨by omega, hmr⟩ (ga_name (.inl rfl) ?_))))))⟩)))))))⟩))))))))))))))
    · decide
    walk_at "nf13"
    obtain ⟨q, X, hS, hOk⟩ : ∃ q X, setupM ns most = suX q X ∧ SuOk (suX q X) X := ⟨_, _, rfl, setup_ok hmr⟩
    rw [hS]
    have GG : Gq q := hOk.G
    have hq1 := GG.od.1
    have hq2 := GG.od.2
    have h61 := mod_rng (nn ns 61) (q - 1) (by omega)
    refine sa_seq ?_
    refine sa_asg (vl_op (vl_int (vl_op (vl_int1 (vl_op (vl_var rfl (vl_int (op_ixL (at_ns 61 (by omega) rfl) (.inl ⟨_, rfl, (vl_op (vl_op (vl_var rfl (vl_int (op_ixT rfl (vl_int (op_I0 (op_I ?_ (op_I0 (ga_name (.inl rfl) ?_))))))))))⟩)))))))))
    · show 0 < q - 1
      omega
    walk_at "nf13"
    have hx : 1 ≤ 1 + nn ns 61 % (q - 1) ∧ 1 + nn ns 61 % (q - 1) < q := by omega
    revert hx
    generalize 1 + nn ns 61 % (q - 1) = x
    intro hx
    have hk := keyM_E (X := X) GG hx
    refine sa_seq ?_
    refine sa_asg (vl_call (va_cons (vl_var rfl (va_cons (vl_var rfl (va_nil (u_key_of (S := suX q X) GG.od (fun v3 hv3 => (ga_name (.inl rfl) ?_)) (fun er he => ?_))))))))
    case refine_2 =>
      rw [hk] at he
      cases he
    walk_at "nf13"
    have hv3' := Except.ok.inj (hk.symm.trans hv3)
    subst hv3'
    refine sa_seq ?_
    refine sa_asgN (vn_call (va_cons (vl_var rfl (va_cons (vl_var rfl (va_cons (vl_vn (vn_slN (vl_var rfl ⟨ns, rfl, (vl_int ⟨_, 6, rfl, rfl, by omega, (va_nil (u_law_sessions (q := q) (X := X) (ns := ns.drop 6) ⟨GG, by omega, by rw [List.length_drop]; omega⟩ ?_))⟩)⟩)))))))))
    walk_at "nf13"
    have hros : ∀ o ∈ rosM q X (ns.drop 6) (nRow (ns.drop 6)), RoOk q X o := fun o ho => rosM_ok GG ho
    have hrl : (rosM q X (ns.drop 6) (nRow (ns.drop 6))).length ≤ 4 := by
      have h1 := rosM_len q X (ns.drop 6) (nRow (ns.drop 6))
      have h2 := mod_rng (nn (ns.drop 6) 0) 4 (by decide)
      unfold nRow at h1 ⊢
      omega
    generalize rosM q X (ns.drop 6) (nRow (ns.drop 6)) = ros at hros hrl
    have hxn : x % q ≠ 0 := lt_ne (by omega) hx.2
    show Sa _ _ _ _ (eW ss k ns q X x ros y7 y8 y9 y10 y11 y12) _
    refine sa_seq ?_
    refine sa_for (iw_range (vl_len (vl_var rfl (.inl ⟨_, rfl, ⟨_, rfl, ?_, ?_, ⟨fun i e => ∃ y7, e = eW ss k ns q X x ros y7 y8 y9 y10 y11 y12, ⟨_, rfl⟩, fun i d e hd hI => ?_, fun e hI => ?_⟩⟩⟩))))
    · show -(2 ^ 62) ≤ ((ros.map _).length : Int)
      omega
    · show ((ros.map _).length : Int) < 2 ^ 62
      rw [List.length_map]
      omega
    · obtain ⟨y7, rfl⟩ := hI
      have hi : i < ros.length := by
        have := (List.getElem?_eq_some_iff.mp hd).1
        simpa using this
      have hd' : d = .int (i : Int) := by
        rw [List.getElem?_map, List.getElem?_range (by simpa using hi)] at hd
        exact (Option.some.inj hd).symm
      subst hd'
      have hat : atI (ros.map (fun o => dRo q X x o)) (i : Int) = some (dRo q X x ros[i]) := by
        refine atI_nat ?_
        rw [List.getElem?_map, List.getElem?_eq_getElem hi]
        rfl
      refine ga_name (.inl rfl) ?_
      walk_at "nf13"
      refine sa_if (vt_not (vt_B (vl_call (va_cons (vl_var rfl (va_cons (vl_var rfl (va_cons (vl_var rfl (va_cons (vl_op (vl_var rfl (vl_var rfl (op_ixL hat (va_cons (vl_vn (vn_slN (vl_var rfl ⟨ns, rfl, (vl_op (vl_int (vl_var rfl (op_I0 ⟨_, 62 + i, rfl, by omega, by omega, (va_nil (u_law_row (q := q) (X := X) (x := x) (ros := ros) (o := ros[i]) (ns := ns.drop (62 + i)) ?_ ⟨_, rfl, ⟨(fun h => nomatch h), fun h => ?_⟩⟩))⟩))))⟩))))))))))))))))))
      · exact ⟨hOk, hxn, hros, hros _ (List.getElem_mem hi), by rw [List.length_drop]; omega⟩
      · exact sa_next ⟨_, rfl⟩
    obtain ⟨y7', rfl⟩ := hI
    refine sa_seq ?_
    refine sa_asg (vl_op (vl_int (vl_op (vl_int1 (vl_var rfl (.inl ⟨_, rfl, (vl_op (vl_op (vl_var rfl (vl_int (op_ixT rfl (vl_int (op_I0 (op_I ?_ (op_I0 (ga_name (.inl rfl) ?_))))))))))⟩))))))
    · show 0 < q - 1
      omega
    walk_at "nf13"
    obtain ⟨hx2, hxx⟩ := strange_ne hq1 hx
    revert hx2 hxx
    generalize 1 + x % (q - 1) = x2
    intro hx2 hxx
    have hk2 := keyM_E (X := X) GG hx2
    have hx2n : x2 % q ≠ 0 := lt_ne (by omega) hx2.2
    have fin : ∀ y9 y10 y11 y12, Sa K ea W0 tNext (eW ss k ns q X x ros y7' (some (.int x2)) y9 y10 y11 y12) (AE.mk (fun e => ∃ y1 y2 y3 y4 y5 y6 y7 y8 y9 y10 y11 y12, e = ⟨[some (scr ss), y1, y2, y3, y4, y5, y6, y7, y8, y9, y10, y11, y12], none⟩) (fun _ => False) (fun _ => False) (fun _ => False) (fun _ => False) (fun _ => False)) := fun _ _ _ _ => sa_next ⟨_, _, _, _, _, _, _, _, _, _, _, _, rfl⟩
    refine sa_for (iw_list rfl (vl_vn (vn_slL (vl_vn (vn_call (va_cons (vl_var rfl (va_cons (vl_var rfl (va_cons (vl_vn (vn_slN (vl_var rfl ⟨ns, rfl, (vl_int ⟨_, 7, rfl, rfl, by omega, (va_nil (u_law_sessions (q := q) (X := X) (ns := ns.drop 7) ⟨GG, by omega, by rw [List.length_drop]; omega⟩ ⟨_, rfl, (vo_none (vo_some (vl_int ⟨_, rfl, ⟨_, rfl, ⟨fun i e => ∃ y9 y10 y11 y12, e = eW ss k ns q X x ros y7' (some (.int x2)) y9 y10 y11 y12, ⟨_, _, _, _, rfl⟩, fun i d e hd hI => ?_, fun e hI => ?_⟩⟩⟩)))⟩))⟩)⟩)))))))))))))
    · obtain ⟨y9, y10, y11, y12, rfl⟩ := hI
      have hmem := cut_mem (List.mem_of_getElem? hd)
      obtain ⟨o2, ho2, rfl⟩ := List.mem_map.mp hmem
      have hok2 := rosM_ok (X := X) GG ho2
      have hn2 := hok2.hn hOk hx2n
      clear hmem hd
      refine ga_name (.inl rfl) ?_
      walk_at "nf13"
      refine sa_for (iw_list rfl (vl_vn (vn_slL (vl_var rfl ⟨_, rfl, (vo_none (vo_some (vl_int ⟨_, rfl, ⟨_, rfl, ⟨fun i e => ∃ y10 y11 y12, e = eW ss k ns q X x ros y7' (some (.int x2)) (some (dRo q X x2 o2)) y10 y11 y12, ⟨_, _, _, rfl⟩, fun i d e hd hI => ?_, fun e hI => ?_⟩⟩⟩)))⟩))))
      · obtain ⟨y10, y11, y12, rfl⟩ := hI
        have hmem := cut_mem (List.mem_of_getElem? hd)
        obtain ⟨o, ho, rfl⟩ := List.mem_map.mp hmem
        have hok := hros o ho
        have hn := hok.hn hOk hxn
        have hpe := okPe_inv hok.2.1
        clear hmem hd
        refine ga_name (.inl rfl) ?_
        walk_at "nf13"
        refine sa_seq ?_
        refine sa_asg (vl_call (va_cons (vl_op (vl_var rfl (vl_int (op_ixT rfl (va_cons (vl_op (vl_op (vl_var rfl (vl_int (op_ixT rfl (vl_int (op_ixT rfl (va_cons (vl_op (vl_var rfl (vl_int (op_ixT rfl (va_cons (vl_int (va_nil (u_law_spend (q := q) (p := o.p) (b := o.b) ⟨GG.od, ⟨by omega, by omega⟩, hpe⟩ (ga_name (.inl rfl) ?_))))))))))))))))))))))))
        walk_at "nf13"
        have hb1 : Bad (suX q X) (E q (X.e * x2)) (reR q X x o) (tiR q X x o) (spH q o.p o.b 1) := hn.str1 hOk hxx
        have hb2 : Bad (suX q X) (E q (X.e * x)) (reR q X x2 o2) (tiR q X x o) (spH q o.p o.b 1) := hn.str2 hOk hn2 hxx
        have hb3 : Bad (suX q X) (E q (X.e * x2)) (reR q X x2 o2) (tiR q X x o) (spH q o.p o.b 1) := hn.str3 hOk ⟨by omega, by show 1 < q; omega⟩ hn2 hxx
        refine sa_seq ?_
        refine sa_if (vt_B (vl_notN (vl_call (va_cons (vl_var rfl (va_cons (vl_call (va_cons (vl_var rfl (va_cons (vl_var rfl (va_nil (u_key_of (S := suX q X) GG.od (fun v7 hv7 => (va_cons (vl_op (vl_var rfl (vl_int (op_ixT rfl (va_cons (vl_op (vl_var rfl (vl_int (op_ixT rfl (va_cons (vl_var rfl (va_nil (u_expl_none (S := suX q X) (key := v7) (rec := reR q X x o) (t := tiR q X x o) (sp := spH q o.p o.b 1) ?_ ⟨_, rfl, ⟨(fun h => nomatch h), fun h => ?_⟩⟩))))))))))))))) (fun er he => ?_))))))))))))))
        · have e7 := Except.ok.inj (hk2.symm.trans hv7)
          rw [← e7]
          exact hb1
        · refine sa_next ?_
          refine sa_for (iw_tup (vl_tup (va_cons (vl_var rfl (va_cons (vl_call (va_cons (vl_var rfl (va_cons (vl_var rfl (va_nil (u_key_of (S := suX q X) GG.od (fun v8 hv8 => (va_nil ⟨fl_ rfl, ln_ rfl, ⟨_, rfl, ⟨fun i e => ∃ y12, e = eW ss k ns q X x ros y7' (some (.int x2)) (some (dRo q X x2 o2)) (some (dRo q X x o)) (some (dSp (spH q o.p o.b 1))) y12, ⟨_, rfl⟩, fun i d e hd hI => ?_, fun e hI => ?_⟩⟩⟩)) (fun er he => ?_)))))))))))))
          · obtain ⟨y12, rfl⟩ := hI
            have e8 := Except.ok.inj (hk2.symm.trans hv8)
            have go : ∃ kk : Int, d = .int kk ∧ Bad (suX q X) kk (reR q X x2 o2) (tiR q X x o) (spH q o.p o.b 1) := by
              have hmem := List.mem_of_getElem? hd
              clear hd
              revert d
              exact fm ⟨_, rfl, hb2⟩ (fm ⟨v8, rfl, by rw [← e8]; exact hb3⟩ fm0)
            obtain ⟨kk, rfl, hb⟩ := go
            refine ga_name (.inl rfl) ?_
            walk_at "nf13"
            refine sa_if (vt_B (vl_notN (vl_call (va_cons (vl_var rfl (va_cons (vl_var rfl (va_cons (vl_op (vl_var rfl (vl_int (op_ixT rfl (va_cons (vl_op (vl_var rfl (vl_int (op_ixT rfl (va_cons (vl_var rfl (va_nil (u_expl_none (S := suX q X) (key := kk) (rec := reR q X x2 o2) (t := tiR q X x o) (sp := spH q o.p o.b 1) hb ⟨_, rfl, ⟨(fun h => nomatch h), fun h => ?_⟩⟩)))))))))))))))))))))
            exact sa_next ⟨_, rfl⟩
          · obtain ⟨y12, rfl⟩ := hI
            exact ⟨_, _, _, rfl⟩
          · rw [hk2] at he
            cases he
        · rw [hk2] at he
          cases he
      · obtain ⟨y10, y11, y12, rfl⟩ := hI
        exact ⟨_, _, _, _, rfl⟩
    · obtain ⟨y9, y10, y11, y12, rfl⟩ := hI
      exact ⟨_, _, _, _, _, _, _, _, _, _, _, _, rfl⟩
  · obtain ⟨y1, y2, y3, y4, y5, y6, y7, y8, y9, y10, y11, y12, rfl⟩ := hI
    exact sa_ret (vl_bl rfl)
end
end Ck
set_option Elab.async false
set_option linter.all false
set_option autoImplicit false
set_option maxRecDepth 100000
set_option maxHeartbeats 0
/-! Fin: the head, all promises, the statement (printed by gen_fin.py). -/
namespace Ck
open PySem PySem.Spec PyProof.Rows L2 Fw
def dcoin : He.DefD := ⟨("coin", none), "coin", "coin", defArgs scoin, defBody scoin, defScope scoin, [], []⟩
def dchallenge : He.DefD := ⟨("challenge", none), "challenge", "challenge", defArgs schallenge, defBody schallenge, defScope schallenge, [], []⟩
def djoined_text : He.DefD := ⟨("joined_text", none), "joined_text", "joined_text", defArgs sjoined_text, defBody sjoined_text, defScope sjoined_text, [], []⟩
def dchallenge_of : He.DefD := ⟨("challenge_of", none), "challenge_of", "challenge_of", defArgs schallenge_of, defBody schallenge_of, defScope schallenge_of, [], []⟩
def draised : He.DefD := ⟨("raised", none), "raised", "raised", defArgs sraised, defBody sraised, defScope sraised, [], []⟩
def dis_element : He.DefD := ⟨("is_element", none), "is_element", "is_element", defArgs sis_element, defBody sis_element, defScope sis_element, [], []⟩
def dcheck_element : He.DefD := ⟨("check_element", none), "check_element", "check_element", defArgs scheck_element, defBody scheck_element, defScope scheck_element, [], []⟩
def dpower : He.DefD := ⟨("power", none), "power", "power", defArgs spower, defBody spower, defScope spower, [], []⟩
def dproduct : He.DefD := ⟨("product", none), "product", "product", defArgs sproduct, defBody sproduct, defScope sproduct, [], []⟩
def dproduct_of_powers : He.DefD := ⟨("product_of_powers", none), "product_of_powers", "product_of_powers", defArgs sproduct_of_powers, defBody sproduct_of_powers, defScope sproduct_of_powers, [], []⟩
def dlogarithm : He.DefD := ⟨("logarithm", none), "logarithm", "logarithm", defArgs slogarithm, defBody slogarithm, defScope slogarithm, [], []⟩
def dquotient : He.DefD := ⟨("quotient", none), "quotient", "quotient", defArgs squotient, defBody squotient, defScope squotient, [], []⟩
def dis_exponent : He.DefD := ⟨("is_exponent", none), "is_exponent", "is_exponent", defArgs sis_exponent, defBody sis_exponent, defScope sis_exponent, [], []⟩
def dcheck_person : He.DefD := ⟨("check_person", none), "check_person", "check_person", defArgs scheck_person, defBody scheck_person, defScope scheck_person, [], []⟩
def dplain_mark : He.DefD := ⟨("plain_mark", none), "plain_mark", "plain_mark", defArgs splain_mark, defBody splain_mark, defScope splain_mark, [], []⟩
def dmark_of : He.DefD := ⟨("mark_of", none), "mark_of", "mark_of", defArgs smark_of, defBody smark_of, defScope smark_of, [], []⟩
def dcheck_secret : He.DefD := ⟨("check_secret", none), "check_secret", "check_secret", defArgs scheck_secret, defBody scheck_secret, defScope scheck_secret, [], []⟩
def dcheck_exponents : He.DefD := ⟨("check_exponents", none), "check_exponents", "check_exponents", defArgs scheck_exponents, defBody scheck_exponents, defScope scheck_exponents, [], []⟩
def dcheck_blinding : He.DefD := ⟨("check_blinding", none), "check_blinding", "check_blinding", defArgs scheck_blinding, defBody scheck_blinding, defScope scheck_blinding, [], []⟩
def dkey_of : He.DefD := ⟨("key_of", none), "key_of", "key_of", defArgs skey_of, defBody skey_of, defScope skey_of, [], []⟩
def dhidden : He.DefD := ⟨("hidden", none), "hidden", "hidden", defArgs shidden, defBody shidden, defScope shidden, [], []⟩
def dchallenge_for : He.DefD := ⟨("challenge_for", none), "challenge_for", "challenge_for", defArgs schallenge_for, defBody schallenge_for, defScope schallenge_for, [], []⟩
def drequest_of : He.DefD := ⟨("request_of", none), "request_of", "request_of", defArgs srequest_of, defBody srequest_of, defScope srequest_of, [], []⟩
def dis_granted : He.DefD := ⟨("is_granted", none), "is_granted", "is_granted", defArgs sis_granted, defBody sis_granted, defScope sis_granted, [], []⟩
def dticket_of : He.DefD := ⟨("ticket_of", none), "ticket_of", "ticket_of", defArgs sticket_of, defBody sticket_of, defScope sticket_of, [], []⟩
def dspend_of : He.DefD := ⟨("spend_of", none), "spend_of", "spend_of", defArgs sspend_of, defBody sspend_of, defScope sspend_of, [], []⟩
def dinner_challenge : He.DefD := ⟨("inner_challenge", none), "inner_challenge", "inner_challenge", defArgs sinner_challenge, defBody sinner_challenge, defScope sinner_challenge, [], []⟩
def dblinding_of : He.DefD := ⟨("blinding_of", none), "blinding_of", "blinding_of", defArgs sblinding_of, defBody sblinding_of, defScope sblinding_of, [], []⟩
def dexplain_ticket : He.DefD := ⟨("explain_ticket", none), "explain_ticket", "explain_ticket", defArgs sexplain_ticket, defBody sexplain_ticket, defScope sexplain_ticket, [], []⟩
def dlaw_cell : He.DefD := ⟨("_law_cell", none), "_law_cell", "_law_cell", defArgs slaw_cell, defBody slaw_cell, defScope slaw_cell, [], []⟩
def dlaw_numbers : He.DefD := ⟨("_law_numbers", none), "_law_numbers", "_law_numbers", defArgs slaw_numbers, defBody slaw_numbers, defScope slaw_numbers, [], []⟩
def dlaw_is_prime : He.DefD := ⟨("_law_is_prime", none), "_law_is_prime", "_law_is_prime", defArgs slaw_is_prime, defBody slaw_is_prime, defScope slaw_is_prime, [], []⟩
def dlaw_order : He.DefD := ⟨("_law_order", none), "_law_order", "_law_order", defArgs slaw_order, defBody slaw_order, defScope slaw_order, [], []⟩
def dlaw_power : He.DefD := ⟨("_law_power", none), "_law_power", "_law_power", defArgs slaw_power, defBody slaw_power, defScope slaw_power, [], []⟩
def dlaw_setup : He.DefD := ⟨("_law_setup", none), "_law_setup", "_law_setup", defArgs slaw_setup, defBody slaw_setup, defScope slaw_setup, [], []⟩
def dlaw_product : He.DefD := ⟨("_law_product", none), "_law_product", "_law_product", defArgs slaw_product, defBody slaw_product, defScope slaw_product, [], []⟩
def dlaw_person : He.DefD := ⟨("_law_person", none), "_law_person", "_law_person", defArgs slaw_person, defBody slaw_person, defScope slaw_person, [], []⟩
def dlaw_mark : He.DefD := ⟨("_law_mark", none), "_law_mark", "_law_mark", defArgs slaw_mark, defBody slaw_mark, defScope slaw_mark, [], []⟩
def dlaw_blinding : He.DefD := ⟨("_law_blinding", none), "_law_blinding", "_law_blinding", defArgs slaw_blinding, defBody slaw_blinding, defScope slaw_blinding, [], []⟩
def dlaw_challenge : He.DefD := ⟨("_law_challenge", none), "_law_challenge", "_law_challenge", defArgs slaw_challenge, defBody slaw_challenge, defScope slaw_challenge, [], []⟩
def dlaw_quotient : He.DefD := ⟨("_law_quotient", none), "_law_quotient", "_law_quotient", defArgs slaw_quotient, defBody slaw_quotient, defScope slaw_quotient, [], []⟩
def dlaw_session : He.DefD := ⟨("_law_session", none), "_law_session", "_law_session", defArgs slaw_session, defBody slaw_session, defScope slaw_session, [], []⟩
def dlaw_spend : He.DefD := ⟨("_law_spend", none), "_law_spend", "_law_spend", defArgs slaw_spend, defBody slaw_spend, defScope slaw_spend, [], []⟩
def dlaw_in_range : He.DefD := ⟨("_law_in_range", none), "_law_in_range", "_law_in_range", defArgs slaw_in_range, defBody slaw_in_range, defScope slaw_in_range, [], []⟩
def dlaw_leads : He.DefD := ⟨("_law_leads", none), "_law_leads", "_law_leads", defArgs slaw_leads, defBody slaw_leads, defScope slaw_leads, [], []⟩
def dlaw_spoilt : He.DefD := ⟨("_law_spoilt", none), "_law_spoilt", "_law_spoilt", defArgs slaw_spoilt, defBody slaw_spoilt, defScope slaw_spoilt, [], []⟩
def dlaw_further : He.DefD := ⟨("_law_further", none), "_law_further", "_law_further", defArgs slaw_further, defBody slaw_further, defScope slaw_further, [], []⟩
def dlaw_sessions : He.DefD := ⟨("_law_sessions", none), "_law_sessions", "_law_sessions", defArgs slaw_sessions, defBody slaw_sessions, defScope slaw_sessions, [], []⟩
def dlaw_row : He.DefD := ⟨("_law_row", none), "_law_row", "_law_row", defArgs slaw_row, defBody slaw_row, defScope slaw_row, [], []⟩
def dlaw : He.DefD := ⟨("law", none), "law", "law", defArgs slaw, defBody slaw, defScope slaw, [], []⟩
def fn0 : List He.DefD := [dcoin, dchallenge, djoined_text, dchallenge_of, draised, dis_element, dcheck_element, dpower, dproduct, dproduct_of_powers, dlogarithm, dquotient, dis_exponent, dcheck_person, dplain_mark, dmark_of, dcheck_secret, dcheck_exponents, dcheck_blinding, dkey_of, dhidden, dchallenge_for, drequest_of, dis_granted, dticket_of]
def fn1 : List He.DefD := [dspend_of, dinner_challenge, dblinding_of, dexplain_ticket, dlaw_cell, dlaw_numbers, dlaw_is_prime, dlaw_order, dlaw_power, dlaw_setup, dlaw_product, dlaw_person, dlaw_mark, dlaw_blinding, dlaw_challenge, dlaw_quotient, dlaw_session, dlaw_spend, dlaw_in_range, dlaw_leads, dlaw_spoilt, dlaw_further, dlaw_sessions, dlaw_row, dlaw]
def fn : List He.DefD := fn0 ++ fn1
def fa0 : List He.Fa := [.glo "coin", .glo "challenge", .glo "joined_text", .glo "challenge_of", .glo "raised", .glo "is_element", .glo "check_element", .glo "power", .glo "product", .glo "product_of_powers", .glo "logarithm", .glo "quotient", .glo "is_exponent", .glo "check_person", .glo "plain_mark", .glo "mark_of", .glo "check_secret", .glo "check_exponents", .glo "check_blinding", .glo "key_of", .glo "hidden", .glo "challenge_for", .glo "request_of", .glo "is_granted", .glo "ticket_of"]
def fa1 : List He.Fa := [.glo "spend_of", .glo "inner_challenge", .glo "blinding_of", .glo "explain_ticket", .glo "_law_cell", .glo "_law_numbers", .glo "_law_is_prime", .glo "_law_order", .glo "_law_power", .glo "_law_setup", .glo "_law_product", .glo "_law_person", .glo "_law_mark", .glo "_law_blinding", .glo "_law_challenge", .glo "_law_quotient", .glo "_law_session", .glo "_law_spend", .glo "_law_in_range", .glo "_law_leads", .glo "_law_spoilt", .glo "_law_further", .glo "_law_sessions", .glo "_law_row", .glo "law"]
def fa2 : List He.Fa := [.free "len", .free "range", .free "zip", .free "list", .free "tuple", .free "int", .free "str", .free "ord", .free "all", .free "max", .free "min", .free "isinstance", .free "bool", .int "MODULUS" 2147483647, .int "SIDES" 1000000, .int "GREATEST" 4, .glo "CloakError", .glo "NotAllowed", .glo "BadPaper", .exc "NotAllowed", .exc "BadPaper", .exm "NotAllowed" "CloakError" true, .exm "BadPaper" "CloakError" true]
def fa : List He.Fa := fa0 ++ fa1 ++ fa2
def lo0 : List Str := ["MODULUS", "SIDES", "GREATEST", "CloakError", "NotAllowed", "BadPaper", "coin", "challenge", "joined_text", "challenge_of", "raised", "is_element", "check_element", "power", "product", "product_of_powers", "logarithm", "quotient", "is_exponent", "check_person", "plain_mark", "mark_of", "check_secret", "check_exponents", "check_blinding"]
def lo1 : List Str := ["key_of", "hidden", "challenge_for", "request_of", "is_granted", "ticket_of", "spend_of", "inner_challenge", "blinding_of", "explain_ticket", "_law_cell", "_law_numbers", "_law_is_prime", "_law_order", "_law_power", "_law_setup", "_law_product", "_law_person", "_law_mark", "_law_blinding", "_law_challenge", "_law_quotient", "_law_session", "_law_spend", "_law_in_range"]
def lo2 : List Str := ["_law_leads", "_law_spoilt", "_law_further", "_law_sessions", "_law_row"]
abbrev loose : List Str := lo0 ++ lo1 ++ lo2
abbrev R : PySem.W.OpenRow := PySem.W.OpenLaw.row PySem.Challenge.rw_cloak_k29_whole_explained_from_every_ses
abbrev hk : PySem.W.Hook := He.hookD 4 fa fn
def ob (s : PySem.W.SharedT) : He.AlD := He.obsDG 4 fa fn (HandSHeadRun.getT s)
theorem ob_eq (s : PySem.W.SharedT) : ob s = hk.obs s.abs := He.obsDG_eq (HandSHeadRun.getT_eq s)
theorem run (w : World) : HandSHeadRun.RunEq R (PySem.W.view R.prog [63]) hk ob 4000 loose w := by
  intro os
  kernel_rfl
/-- the addresses of the two errors -/
def eaK (K : PySem.W.Frag) : Er → Addr
  | .na => He.ga K "NotAllowed"
  | .bp => He.ga K "BadPaper"
theorem tops {K : PySem.W.Frag} {h : Heap} {mg : Str → Option Value} (X : K.In h) (G : h.Ns mainGlobals mg) (c : He.SaysD fa fn K) : Tx K mg (eaK K) (He.ga K "CloakError") where
  flen := He.free_ok X G (c.fact 50 (f := .free "len") rfl)
  frange := He.free_ok X G (c.fact 51 (f := .free "range") rfl)
  fzip := He.free_ok X G (c.fact 52 (f := .free "zip") rfl)
  flist := He.free_ok X G (c.fact 53 (f := .free "list") rfl)
  ftuple := He.free_ok X G (c.fact 54 (f := .free "tuple") rfl)
  fint := He.free_ok X G (c.fact 55 (f := .free "int") rfl)
  fstr := He.free_ok X G (c.fact 56 (f := .free "str") rfl)
  ford := He.free_ok X G (c.fact 57 (f := .free "ord") rfl)
  fall := He.free_ok X G (c.fact 58 (f := .free "all") rfl)
  fmax := He.free_ok X G (c.fact 59 (f := .free "max") rfl)
  fmin := He.free_ok X G (c.fact 60 (f := .free "min") rfl)
  fisinstance := He.free_ok X G (c.fact 61 (f := .free "isinstance") rfl)
  fbool := He.free_ok X G (c.fact 62 (f := .free "bool") rfl)
  cMODULUS := He.int_ok X G (c.fact 63 (f := .int "MODULUS" 2147483647) rfl)
  cSIDES := He.int_ok X G (c.fact 64 (f := .int "SIDES" 1000000) rfl)
  cGREATEST := He.int_ok X G (c.fact 65 (f := .int "GREATEST" 4) rfl)
  gNA := He.glo_ok X G (c.fact 67 (f := .glo "NotAllowed") rfl)
  xNA := (He.exc_ok (c.fact 69 (f := .exc "NotAllowed") rfl)).1
  kNA := (He.exc_ok (c.fact 69 (f := .exc "NotAllowed") rfl)).2.1
  bNA := (He.exc_ok (c.fact 69 (f := .exc "NotAllowed") rfl)).2.2.1
  tNA := (He.exc_ok (c.fact 69 (f := .exc "NotAllowed") rfl)).2.2.2
  gBP := He.glo_ok X G (c.fact 68 (f := .glo "BadPaper") rfl)
  xBP := (He.exc_ok (c.fact 70 (f := .exc "BadPaper") rfl)).1
  kBP := (He.exc_ok (c.fact 70 (f := .exc "BadPaper") rfl)).2.1
  bBP := (He.exc_ok (c.fact 70 (f := .exc "BadPaper") rfl)).2.2.1
  tBP := (He.exc_ok (c.fact 70 (f := .exc "BadPaper") rfl)).2.2.2
  gCE := He.glo_ok X G (c.fact 66 (f := .glo "CloakError") rfl)
  exm := fun er => match er with
    | .na => He.exm_ok (c.fact 71 (f := .exm "NotAllowed" "CloakError" true) rfl)
    | .bp => He.exm_ok (c.fact 72 (f := .exm "BadPaper" "CloakError" true) rfl)
  isb := kit_ty rfl
theorem facts {P : Program} {w : World} {K : PySem.W.Frag} {h : Heap} {mg : Str → Option Value} {f : Addr} (X : K.In h) (G : h.Ns mainGlobals mg) (hfa : mg ("law" : Str) = some (.ref f)) (c : He.SaysD fa fn K) :
    ∃ fd : FuncData, (∀ (s : Shared) (v : Value), BindsTo s fd ⟨[v], []⟩ [("_law_script", v)]) ∧ ∀ base : Heap, K.In base → base.Ns mainGlobals mg → FnOk P w K mg base CX0 12 f fd ["_law_script"] (spF K (eaK K) F_law) := by
  have T := tops X G c
  obtain ⟨fdcoin, Fcoin⟩ := c.def_ 0 (d := dcoin) rfl
  obtain ⟨fdchallenge, Fchallenge⟩ := c.def_ 1 (d := dchallenge) rfl
  obtain ⟨fdjoined_text, Fjoined_text⟩ := c.def_ 2 (d := djoined_text) rfl
  obtain ⟨fdchallenge_of, Fchallenge_of⟩ := c.def_ 3 (d := dchallenge_of) rfl
  obtain ⟨fdraised, Fraised⟩ := c.def_ 4 (d := draised) rfl
  obtain ⟨fdis_element, Fis_element⟩ := c.def_ 5 (d := dis_element) rfl
  obtain ⟨fdcheck_element, Fcheck_element⟩ := c.def_ 6 (d := dcheck_element) rfl
  obtain ⟨fdpower, Fpower⟩ := c.def_ 7 (d := dpower) rfl
  obtain ⟨fdproduct, Fproduct⟩ := c.def_ 8 (d := dproduct) rfl
  obtain ⟨fdproduct_of_powers, Fproduct_of_powers⟩ := c.def_ 9 (d := dproduct_of_powers) rfl
  obtain ⟨fdlogarithm, Flogarithm⟩ := c.def_ 10 (d := dlogarithm) rfl
  obtain ⟨fdquotient, Fquotient⟩ := c.def_ 11 (d := dquotient) rfl
  obtain ⟨fdis_exponent, Fis_exponent⟩ := c.def_ 12 (d := dis_exponent) rfl
  obtain ⟨fdcheck_person, Fcheck_person⟩ := c.def_ 13 (d := dcheck_person) rfl
  obtain ⟨fdplain_mark, Fplain_mark⟩ := c.def_ 14 (d := dplain_mark) rfl
  obtain ⟨fdmark_of, Fmark_of⟩ := c.def_ 15 (d := dmark_of) rfl
  obtain ⟨fdcheck_secret, Fcheck_secret⟩ := c.def_ 16 (d := dcheck_secret) rfl
  obtain ⟨fdcheck_exponents, Fcheck_exponents⟩ := c.def_ 17 (d := dcheck_exponents) rfl
  obtain ⟨fdcheck_blinding, Fcheck_blinding⟩ := c.def_ 18 (d := dcheck_blinding) rfl
  obtain ⟨fdkey_of, Fkey_of⟩ := c.def_ 19 (d := dkey_of) rfl
  obtain ⟨fdhidden, Fhidden⟩ := c.def_ 20 (d := dhidden) rfl
  obtain ⟨fdchallenge_for, Fchallenge_for⟩ := c.def_ 21 (d := dchallenge_for) rfl
  obtain ⟨fdrequest_of, Frequest_of⟩ := c.def_ 22 (d := drequest_of) rfl
  obtain ⟨fdis_granted, Fis_granted⟩ := c.def_ 23 (d := dis_granted) rfl
  obtain ⟨fdticket_of, Fticket_of⟩ := c.def_ 24 (d := dticket_of) rfl
  obtain ⟨fdspend_of, Fspend_of⟩ := c.def_ 25 (d := dspend_of) rfl
  obtain ⟨fdinner_challenge, Finner_challenge⟩ := c.def_ 26 (d := dinner_challenge) rfl
  obtain ⟨fdblinding_of, Fblinding_of⟩ := c.def_ 27 (d := dblinding_of) rfl
  obtain ⟨fdexplain_ticket, Fexplain_ticket⟩ := c.def_ 28 (d := dexplain_ticket) rfl
  obtain ⟨fdlaw_cell, Flaw_cell⟩ := c.def_ 29 (d := dlaw_cell) rfl
  obtain ⟨fdlaw_numbers, Flaw_numbers⟩ := c.def_ 30 (d := dlaw_numbers) rfl
  obtain ⟨fdlaw_is_prime, Flaw_is_prime⟩ := c.def_ 31 (d := dlaw_is_prime) rfl
  obtain ⟨fdlaw_order, Flaw_order⟩ := c.def_ 32 (d := dlaw_order) rfl
  obtain ⟨fdlaw_power, Flaw_power⟩ := c.def_ 33 (d := dlaw_power) rfl
  obtain ⟨fdlaw_setup, Flaw_setup⟩ := c.def_ 34 (d := dlaw_setup) rfl
  obtain ⟨fdlaw_product, Flaw_product⟩ := c.def_ 35 (d := dlaw_product) rfl
  obtain ⟨fdlaw_person, Flaw_person⟩ := c.def_ 36 (d := dlaw_person) rfl
  obtain ⟨fdlaw_mark, Flaw_mark⟩ := c.def_ 37 (d := dlaw_mark) rfl
  obtain ⟨fdlaw_blinding, Flaw_blinding⟩ := c.def_ 38 (d := dlaw_blinding) rfl
  obtain ⟨fdlaw_challenge, Flaw_challenge⟩ := c.def_ 39 (d := dlaw_challenge) rfl
  obtain ⟨fdlaw_quotient, Flaw_quotient⟩ := c.def_ 40 (d := dlaw_quotient) rfl
  obtain ⟨fdlaw_session, Flaw_session⟩ := c.def_ 41 (d := dlaw_session) rfl
  obtain ⟨fdlaw_spend, Flaw_spend⟩ := c.def_ 42 (d := dlaw_spend) rfl
  obtain ⟨fdlaw_in_range, Flaw_in_range⟩ := c.def_ 43 (d := dlaw_in_range) rfl
  obtain ⟨fdlaw_leads, Flaw_leads⟩ := c.def_ 44 (d := dlaw_leads) rfl
  obtain ⟨fdlaw_spoilt, Flaw_spoilt⟩ := c.def_ 45 (d := dlaw_spoilt) rfl
  obtain ⟨fdlaw_further, Flaw_further⟩ := c.def_ 46 (d := dlaw_further) rfl
  obtain ⟨fdlaw_sessions, Flaw_sessions⟩ := c.def_ 47 (d := dlaw_sessions) rfl
  obtain ⟨fdlaw_row, Flaw_row⟩ := c.def_ 48 (d := dlaw_row) rfl
  obtain ⟨fdlaw, Flaw⟩ := c.def_ 49 (d := dlaw) rfl
  have e := hfa.symm.trans (He.glo_ok X G (c.fact 49 (f := .glo "law") rfl))
  cases e
  have b := FunD.bindsA (ps := ["_law_script"]) Flaw fun _ _ _ _ _ _ us hl => match us, hl with | [_], _ => rfl
  refine ⟨fdlaw, fun s v => b s [v] rfl, fun base _ _ => ?_⟩
  have kcoin := ok_coin (P := P) (w := w) (base := base) T  Fcoin (He.glo_ok X G (c.fact 0 (f := .glo "coin") rfl))
  have kchallenge := ok_challenge (P := P) (w := w) (base := base) T kcoin Fchallenge (He.glo_ok X G (c.fact 1 (f := .glo "challenge") rfl))
  have kjoined_text := ok_joined_text (P := P) (w := w) (base := base) T  Fjoined_text (He.glo_ok X G (c.fact 2 (f := .glo "joined_text") rfl))
  have kchallenge_of := ok_challenge_of (P := P) (w := w) (base := base) T kchallenge kjoined_text Fchallenge_of (He.glo_ok X G (c.fact 3 (f := .glo "challenge_of") rfl))
  have kraised := ok_raised (P := P) (w := w) (base := base) T  Fraised (He.glo_ok X G (c.fact 4 (f := .glo "raised") rfl))
  have kis_element := ok_is_element (P := P) (w := w) (base := base) T kraised Fis_element (He.glo_ok X G (c.fact 5 (f := .glo "is_element") rfl))
  have kcheck_element := ok_check_element (P := P) (w := w) (base := base) T kis_element Fcheck_element (He.glo_ok X G (c.fact 6 (f := .glo "check_element") rfl))
  have kpower := ok_power (P := P) (w := w) (base := base) T kraised kcheck_element Fpower (He.glo_ok X G (c.fact 7 (f := .glo "power") rfl))
  have kproduct := ok_product (P := P) (w := w) (base := base) T kcheck_element Fproduct (He.glo_ok X G (c.fact 8 (f := .glo "product") rfl))
  have kproduct_of_powers := ok_product_of_powers (P := P) (w := w) (base := base) T kpower Fproduct_of_powers (He.glo_ok X G (c.fact 9 (f := .glo "product_of_powers") rfl))
  have klogarithm := ok_logarithm (P := P) (w := w) (base := base) T kcheck_element Flogarithm (He.glo_ok X G (c.fact 10 (f := .glo "logarithm") rfl))
  have kquotient := ok_quotient (P := P) (w := w) (base := base) T kraised Fquotient (He.glo_ok X G (c.fact 11 (f := .glo "quotient") rfl))
  have kis_exponent := ok_is_exponent (P := P) (w := w) (base := base) T  Fis_exponent (He.glo_ok X G (c.fact 12 (f := .glo "is_exponent") rfl))
  have kcheck_person := ok_check_person (P := P) (w := w) (base := base) T kis_exponent Fcheck_person (He.glo_ok X G (c.fact 13 (f := .glo "check_person") rfl))
  have kplain_mark := ok_plain_mark (P := P) (w := w) (base := base) T kproduct_of_powers Fplain_mark (He.glo_ok X G (c.fact 14 (f := .glo "plain_mark") rfl))
  have kmark_of := ok_mark_of (P := P) (w := w) (base := base) T kcheck_person kplain_mark Fmark_of (He.glo_ok X G (c.fact 15 (f := .glo "mark_of") rfl))
  have kcheck_secret := ok_check_secret (P := P) (w := w) (base := base) T  Fcheck_secret (He.glo_ok X G (c.fact 16 (f := .glo "check_secret") rfl))
  have kcheck_exponents := ok_check_exponents (P := P) (w := w) (base := base) T kis_exponent Fcheck_exponents (He.glo_ok X G (c.fact 17 (f := .glo "check_exponents") rfl))
  have kcheck_blinding := ok_check_blinding (P := P) (w := w) (base := base) T kcheck_exponents Fcheck_blinding (He.glo_ok X G (c.fact 18 (f := .glo "check_blinding") rfl))
  have kkey_of := ok_key_of (P := P) (w := w) (base := base) T kpower kcheck_secret Fkey_of (He.glo_ok X G (c.fact 19 (f := .glo "key_of") rfl))
  have khidden := ok_hidden (P := P) (w := w) (base := base) T kis_element kpower kproduct kproduct_of_powers kmark_of kcheck_blinding Fhidden (He.glo_ok X G (c.fact 20 (f := .glo "hidden") rfl))
  have kchallenge_for := ok_challenge_for (P := P) (w := w) (base := base) T kchallenge_of Fchallenge_for (He.glo_ok X G (c.fact 21 (f := .glo "challenge_for") rfl))
  have krequest_of := ok_request_of (P := P) (w := w) (base := base) T kquotient khidden kchallenge_for Frequest_of (He.glo_ok X G (c.fact 22 (f := .glo "request_of") rfl))
  have kis_granted := ok_is_granted (P := P) (w := w) (base := base) T kpower kproduct Fis_granted (He.glo_ok X G (c.fact 23 (f := .glo "is_granted") rfl))
  have kticket_of := ok_ticket_of (P := P) (w := w) (base := base) T kquotient kmark_of kcheck_exponents khidden kchallenge_for kis_granted Fticket_of (He.glo_ok X G (c.fact 24 (f := .glo "ticket_of") rfl))
  have kspend_of := ok_spend_of (P := P) (w := w) (base := base) T kcheck_person kcheck_exponents kcheck_blinding Fspend_of (He.glo_ok X G (c.fact 25 (f := .glo "spend_of") rfl))
  have kinner_challenge := ok_inner_challenge (P := P) (w := w) (base := base) T kchallenge_for Finner_challenge (He.glo_ok X G (c.fact 26 (f := .glo "inner_challenge") rfl))
  have kblinding_of := ok_blinding_of (P := P) (w := w) (base := base) T klogarithm kquotient kmark_of kinner_challenge Fblinding_of (He.glo_ok X G (c.fact 27 (f := .glo "blinding_of") rfl))
  have kexplain_ticket := ok_explain_ticket (P := P) (w := w) (base := base) T krequest_of kticket_of kspend_of kblinding_of Fexplain_ticket (He.glo_ok X G (c.fact 28 (f := .glo "explain_ticket") rfl))
  have klaw_cell := ok_law_cell (P := P) (w := w) (base := base) T  Flaw_cell (He.glo_ok X G (c.fact 29 (f := .glo "_law_cell") rfl))
  have klaw_numbers := ok_law_numbers (P := P) (w := w) (base := base) T  Flaw_numbers (He.glo_ok X G (c.fact 30 (f := .glo "_law_numbers") rfl))
  have klaw_is_prime := ok_law_is_prime (P := P) (w := w) (base := base) T  Flaw_is_prime (He.glo_ok X G (c.fact 31 (f := .glo "_law_is_prime") rfl))
  have klaw_order := ok_law_order (P := P) (w := w) (base := base) T klaw_is_prime Flaw_order (He.glo_ok X G (c.fact 32 (f := .glo "_law_order") rfl))
  have klaw_power := ok_law_power (P := P) (w := w) (base := base) T  Flaw_power (He.glo_ok X G (c.fact 33 (f := .glo "_law_power") rfl))
  have klaw_setup := ok_law_setup (P := P) (w := w) (base := base) T klaw_order klaw_power Flaw_setup (He.glo_ok X G (c.fact 34 (f := .glo "_law_setup") rfl))
  have klaw_product := ok_law_product (P := P) (w := w) (base := base) T klaw_power Flaw_product (He.glo_ok X G (c.fact 35 (f := .glo "_law_product") rfl))
  have klaw_person := ok_law_person (P := P) (w := w) (base := base) T  Flaw_person (He.glo_ok X G (c.fact 36 (f := .glo "_law_person") rfl))
  have klaw_mark := ok_law_mark (P := P) (w := w) (base := base) T klaw_product Flaw_mark (He.glo_ok X G (c.fact 37 (f := .glo "_law_mark") rfl))
  have klaw_blinding := ok_law_blinding (P := P) (w := w) (base := base) T  Flaw_blinding (He.glo_ok X G (c.fact 38 (f := .glo "_law_blinding") rfl))
  have klaw_challenge := ok_law_challenge (P := P) (w := w) (base := base) T  Flaw_challenge (He.glo_ok X G (c.fact 39 (f := .glo "_law_challenge") rfl))
  have klaw_quotient := ok_law_quotient (P := P) (w := w) (base := base) T klaw_power Flaw_quotient (He.glo_ok X G (c.fact 40 (f := .glo "_law_quotient") rfl))
  have klaw_session := ok_law_session (P := P) (w := w) (base := base) T klaw_power klaw_product klaw_mark klaw_challenge klaw_quotient Flaw_session (He.glo_ok X G (c.fact 41 (f := .glo "_law_session") rfl))
  have klaw_spend := ok_law_spend (P := P) (w := w) (base := base) T  Flaw_spend (He.glo_ok X G (c.fact 42 (f := .glo "_law_spend") rfl))
  have klaw_in_range := ok_law_in_range (P := P) (w := w) (base := base) T  Flaw_in_range (He.glo_ok X G (c.fact 43 (f := .glo "_law_in_range") rfl))
  have klaw_leads := ok_law_leads (P := P) (w := w) (base := base) T krequest_of kticket_of kspend_of Flaw_leads (He.glo_ok X G (c.fact 44 (f := .glo "_law_leads") rfl))
  have klaw_spoilt := ok_law_spoilt (P := P) (w := w) (base := base) T klaw_power Flaw_spoilt (He.glo_ok X G (c.fact 45 (f := .glo "_law_spoilt") rfl))
  have klaw_further := ok_law_further (P := P) (w := w) (base := base) T klaw_power Flaw_further (He.glo_ok X G (c.fact 46 (f := .glo "_law_further") rfl))
  have klaw_sessions := ok_law_sessions (P := P) (w := w) (base := base) T klaw_person klaw_mark klaw_blinding klaw_session Flaw_sessions (He.glo_ok X G (c.fact 47 (f := .glo "_law_sessions") rfl))
  have klaw_row := ok_law_row (P := P) (w := w) (base := base) T kexplain_ticket klaw_spend klaw_in_range klaw_leads klaw_spoilt klaw_further Flaw_row (He.glo_ok X G (c.fact 48 (f := .glo "_law_row") rfl))
  exact ok_law (P := P) (w := w) (base := base) T kkey_of kexplain_ticket klaw_cell klaw_numbers klaw_setup klaw_spend klaw_sessions klaw_row Flaw (He.glo_ok X G (c.fact 49 (f := .glo "law") rfl))
end Ck
open PySem PySem.W PySem.Calls PyProof.Rows
theorem PySem.Challenge.cw_cloak_k29_whole_explained_from_every_ses_holds : PySem.Challenge.rw_cloak_k29_whole_explained_from_every_ses.Holds := by
  w_on; o_law
  refine HandSHeadRun.head_any (r := OpenLaw.row PySem.Challenge.rw_cloak_k29_whole_explained_from_every_ses) (q := view (OpenLaw.row PySem.Challenge.rw_cloak_k29_whole_explained_from_every_ses).prog [63]) (H := Ck.hk) (ob := Ck.ob) (M := 4000) (loose := Ck.loose) (d := HandSHeadRun.topDef (OpenLaw.row PySem.Challenge.rw_cloak_k29_whole_explained_from_every_ses).prog 63) (kwd := []) Ck.ob_eq
    (by kernel_rfl) (fun s => by kernel_rfl) Ck.run (by kernel_rfl) (by kernel_rfl) (by kernel_rfl) (by rfl) (by first | assumption | decide +kernel) (by decide +kernel) ⟨rfl, rfl, rfl, rfl, rfl, by decide +kernel⟩ ?hw ?hc
  case hw => w_witness2
  case hc =>
    refine L2.walk_ofE (l := PySem.Challenge.rw_cloak_k29_whole_explained_from_every_ses) (n := 63) (k := 12) (x := "_law_script") (CX := L2.CX0) rfl (by decide) (by kernel_rfl) ⟨rfl, by decide, by decide⟩ ?F (fun _ _ _ _ z => z)
    intro w mg fa h Y G hmg0
    obtain ⟨K, KX, c⟩ := Y
    have hmg : mg ("law" : PySem.Str) = some (.ref fa) := by
      have e : (HandSHeadRun.topDef (OpenLaw.row PySem.Challenge.rw_cloak_k29_whole_explained_from_every_ses).prog 63).name = ("law" : PySem.Str) := by kernel_rfl
      rw [← e]
      exact hmg0
    obtain ⟨fd, hb, hF⟩ := Ck.facts (P := (PySem.Challenge.rw_cloak_k29_whole_explained_from_every_ses).prog) (w := w) KX G hmg c
    refine ⟨K, fd, Fw.spF K (Ck.eaK K) Ck.F_law, KX, hb, fun H a ns hl _ hS => ?_, hF⟩
    exact ⟨[Fw.scr ns], .ok (.bool true), .cons (.inr (.inr ⟨a, ns, rfl, rfl, hS⟩)) .nil, ⟨ns, rfl, rfl⟩, fun d v H' e _ rv => (by cases e; exact rv.bool), fun er H' e => (by cases e)⟩
