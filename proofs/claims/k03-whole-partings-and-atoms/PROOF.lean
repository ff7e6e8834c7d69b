import PyProof.Rows.All
import Wide.All
import OpenK.AllK
import Wide.FinOn
import PyProof.EqAt
import PyProof.EqKinds
import PyProof.TupleCall
import HandS.Base
import HandS.Call
import HandS.List
import HandS.Comp
import HandS.Ends
import HandS.Dict
import HandS.Iter
import HandS.Text
import HandS.Exc
import HandS.Words
import HandS.WordsList
import HandS.WordsDict
import HandS.WordsExc
import HandS.Conv
import HandS.Deep
import HandS.IsInst
import HandS.SortInts
import HandS.SortOrd
import HandS.ExcInit
import HandS.ExcField
import HandS.TupLe
import HandS.TupAny
import HandS.NamedTupSort
import KE.KSortTup
import PyProof.ReprRoads
import HandS.ExcOwn
import PySem.Challenge.RW_closereckoned_k03_whole_partings_and_ato
set_option Elab.async false
set_option linter.all false
set_option maxRecDepth 100000
set_option maxHeartbeats 2000000
namespace Pz
open PySem PySem.Spec PyProof.Rows L2

mutual
def Rp (H : Hp) : PyData → V → Prop
  | .none, v => v = .non
  | .bool b, v => v = .bl b
  | .int i, v => v = .int i
  | .str x, v => v = .str x
  | .list ds, v => ∃ a xs, v = .ref a ∧ H a = some (.lst xs) ∧ RpA H ds xs
  | .tuple ds, v => ∃ a xs, v = .ref a ∧ H a = some (.tup xs) ∧ RpA H ds xs
  | .dict kvs, v => ∃ (p : Addr) (c : Int), v = .ref p ∧ kvs = [(.int (p : Int), .int c)]
def RpA (H : Hp) : List PyData → List V → Prop
  | [], xs => xs = []
  | d :: ds, xs => ∃ x r, xs = x :: r ∧ Rp H d x ∧ RpA H ds r
end
mutual
def imm : PyData → Bool
  | .list _ => false
  | .dict _ => false
  | .tuple ds => immA ds
  | .none => true
  | .bool _ => true
  | .int _ => true
  | .str _ => true
def immA : List PyData → Bool
  | [] => true
  | d :: ds => imm d && immA ds
end
/-- all tuples stand -/
def SameT (H H' : Hp) : Prop := ∀ a xs, H a = some (.tup xs) → H' a = some (.tup xs)
theorem Same.t {H H' : Hp} (e : Same H H') : SameT H H' := fun a _ h => e a _ h
theorem SameT.trans {H H1 H2 : Hp} (a : SameT H H1) (b : SameT H1 H2) : SameT H H2 := fun c _ h => b c _ (a c _ h)

mutual
theorem Rp.mono {H H' : Hp} (e : Same H H') : ∀ (d : PyData) (v : V), Rp H d v → Rp H' d v
  | .none, v, h => by simp only [Rp] at *; exact h
  | .bool b, v, h => by simp only [Rp] at *; exact h
  | .int i, v, h => by simp only [Rp] at *; exact h
  | .str x, v, h => by simp only [Rp] at *; exact h
  | .list ds, v, h => by
    simp only [Rp] at *
    obtain ⟨a, xs, h1, h2, h3⟩ := h
    exact ⟨a, xs, h1, e _ _ h2, RpA.mono e ds xs h3⟩
  | .tuple ds, v, h => by
    simp only [Rp] at *
    obtain ⟨a, xs, h1, h2, h3⟩ := h
    exact ⟨a, xs, h1, e _ _ h2, RpA.mono e ds xs h3⟩
  | .dict _, v, h => by simp only [Rp] at *; exact h
theorem RpA.mono {H H' : Hp} (e : Same H H') : ∀ (ds : List PyData) (xs : List V), RpA H ds xs → RpA H' ds xs
  | [], xs, h => by simp only [RpA] at *; exact h
  | d :: ds, xs, h => by
    simp only [RpA] at *
    obtain ⟨x, r, h1, h2, h3⟩ := h
    exact ⟨x, r, h1, Rp.mono e d x h2, RpA.mono e ds r h3⟩
end
mutual
theorem Rp.monoT {H H' : Hp} (e : SameT H H') : ∀ (d : PyData) (v : V), imm d = true → Rp H d v → Rp H' d v
  | .none, v, _, h => by simp only [Rp] at *; exact h
  | .bool b, v, _, h => by simp only [Rp] at *; exact h
  | .int i, v, _, h => by simp only [Rp] at *; exact h
  | .str x, v, _, h => by simp only [Rp] at *; exact h
  | .list ds, v, i, h => by simp [imm] at i
  | .tuple ds, v, i, h => by
    simp only [Rp] at *
    obtain ⟨a, xs, h1, h2, h3⟩ := h
    exact ⟨a, xs, h1, e _ _ h2, RpA.monoT e ds xs (by simpa only [imm] using i) h3⟩
  | .dict _, v, i, h => by simp only [Rp] at *; exact h
theorem RpA.monoT {H H' : Hp} (e : SameT H H') : ∀ (ds : List PyData) (xs : List V), immA ds = true → RpA H ds xs → RpA H' ds xs
  | [], xs, _, h => by simp only [RpA] at *; exact h
  | d :: ds, xs, i, h => by
    simp only [RpA] at *
    obtain ⟨x, r, h1, h2, h3⟩ := h
    simp only [immA, Bool.and_eq_true] at i
    exact ⟨x, r, h1, Rp.monoT e d x i.1 h2, RpA.monoT e ds r i.2 h3⟩
end
mutual
theorem Rp.dp {K : PySem.W.Frag} {H : Hp} : ∀ (d : PyData) (v : V), d.hasDict = false → Rp H d v → Dp K H v d
  | .none, v, _, h => by simp only [Rp] at h; subst h; exact .non
  | .bool b, v, _, h => by simp only [Rp] at h; subst h; exact .bl b
  | .int i, v, _, h => by simp only [Rp] at h; subst h; exact .int i
  | .str x, v, _, h => by simp only [Rp] at h; subst h; exact .str x
  | .list ds, v, c, h => by
    simp only [Rp] at h
    obtain ⟨a, xs, h1, h2, h3⟩ := h
    subst h1
    exact .lst (SqL.of h2) (RpA.dp ds xs (by simpa only [PyData.hasDict] using c) h3)
  | .tuple ds, v, c, h => by
    simp only [Rp] at h
    obtain ⟨a, xs, h1, h2, h3⟩ := h
    subst h1
    exact .tup (SqT.of h2) (RpA.dp ds xs (by simpa only [PyData.hasDict] using c) h3)
  | .dict _, v, c, h => by simp only [PyData.hasDict] at c; cases c
theorem RpA.dp {K : PySem.W.Frag} {H : Hp} : ∀ (ds : List PyData) (xs : List V), PyData.hasDictAll ds = false → RpA H ds xs → DpAll K H xs ds
  | [], xs, _, h => by simp only [RpA] at h; subst h; exact .nil
  | d :: ds, xs, c, h => by
    simp only [RpA] at h
    obtain ⟨x, r, h1, h2, h3⟩ := h
    subst h1
    simp only [PyData.hasDictAll, Bool.or_eq_false_iff] at c
    exact .cons (Rp.dp d x c.1 h2) (RpA.dp ds r c.2 h3)
end

/-- a dict that is only told by its place p, beside the place c of a list in it -/
def srcD (p : Addr) (c : Addr) : PyData := .dict [(.int (p : Int), .int (c : Int))]
theorem rp_src {H : Hp} (p c : Addr) : Rp H (srcD p c) (.ref p) := by
  unfold srcD
  simp only [Rp]
  exact ⟨p, _, rfl, rfl⟩
theorem Rp.isSrc {H : Hp} {p c : Addr} {v : V} (h : Rp H (srcD p c) v) : v = .ref p := by
  unfold srcD at h
  simp only [Rp] at h
  obtain ⟨q, c', h1, h2⟩ := h
  have e1 := (List.cons.inj h2).1
  have e2 : PyData.int (p : Int) = PyData.int (q : Int) := (Prod.mk.inj e1).1
  have e3 : (p : Int) = (q : Int) := PyData.int.inj e2
  have e : p = q := Int.ofNat.inj e3
  rw [h1, e]
theorem rp_non {H : Hp} : Rp H .none .non := by simp only [Rp]
theorem rp_bl {H : Hp} (b : Bool) : Rp H (.bool b) (.bl b) := by simp only [Rp]
theorem rp_int {H : Hp} (i : Int) : Rp H (.int i) (.int i) := by simp only [Rp]
theorem rp_str {H : Hp} (x : Str) : Rp H (.str x) (.str x) := by simp only [Rp]
theorem rp_lst {H : Hp} {a : Addr} {xs : List V} {ds : List PyData} (h : H a = some (.lst xs)) (r : RpA H ds xs) : Rp H (.list ds) (.ref a) := by simp only [Rp]; exact ⟨a, xs, rfl, h, r⟩
theorem rp_tup {H : Hp} {a : Addr} {xs : List V} {ds : List PyData} (h : H a = some (.tup xs)) (r : RpA H ds xs) : Rp H (.tuple ds) (.ref a) := by simp only [Rp]; exact ⟨a, xs, rfl, h, r⟩
theorem Rp.isBl {H : Hp} {b : Bool} {v : V} (h : Rp H (.bool b) v) : v = .bl b := by simpa only [Rp] using h
theorem Rp.isInt {H : Hp} {i : Int} {v : V} (h : Rp H (.int i) v) : v = .int i := by simpa only [Rp] using h
theorem Rp.isStr {H : Hp} {x : Str} {v : V} (h : Rp H (.str x) v) : v = .str x := by simpa only [Rp] using h
theorem Rp.isNon {H : Hp} {v : V} (h : Rp H .none v) : v = .non := by simpa only [Rp] using h
theorem Rp.isLst {H : Hp} {ds : List PyData} {v : V} (h : Rp H (.list ds) v) : ∃ a xs, v = .ref a ∧ H a = some (.lst xs) ∧ RpA H ds xs := by simpa only [Rp] using h
theorem Rp.isTup {H : Hp} {ds : List PyData} {v : V} (h : Rp H (.tuple ds) v) : ∃ a xs, v = .ref a ∧ H a = some (.tup xs) ∧ RpA H ds xs := by simpa only [Rp] using h
theorem rpa_nil {H : Hp} : RpA H [] [] := by simp only [RpA]
theorem rpa_cons {H : Hp} {d : PyData} {ds : List PyData} {x : V} {xs : List V} (h : Rp H d x) (r : RpA H ds xs) : RpA H (d :: ds) (x :: xs) := by simp only [RpA]; exact ⟨x, xs, rfl, h, r⟩
theorem RpA.isNil {H : Hp} {xs : List V} (h : RpA H [] xs) : xs = [] := by simpa only [RpA] using h
theorem RpA.isCons {H : Hp} {d : PyData} {ds : List PyData} {xs : List V} (h : RpA H (d :: ds) xs) : ∃ x r, xs = x :: r ∧ Rp H d x ∧ RpA H ds r := by simpa only [RpA] using h
theorem RpA.length {H : Hp} : ∀ {ds : List PyData} {xs : List V}, RpA H ds xs → xs.length = ds.length
  | [], xs, h => by rw [h.isNil] <;> rfl
  | d :: ds, xs, h => by
    obtain ⟨x, r, rfl, _, h3⟩ := h.isCons
    rw [List.length_cons, List.length_cons, RpA.length h3]
theorem RpA.get {H : Hp} : ∀ {ds : List PyData} {xs : List V} {i : Nat} {d : PyData}, RpA H ds xs → ds[i]? = some d → ∃ x, xs[i]? = some x ∧ Rp H d x
  | [], _, _, _, _, e => by simp at e
  | d :: ds, xs, 0, _, h, e => by
    obtain ⟨x, r, rfl, h2, h3⟩ := h.isCons
    simp at e
    subst e
    exact ⟨x, rfl, h2⟩
  | d :: ds, xs, i + 1, _, h, e => by
    obtain ⟨x, r, rfl, h2, h3⟩ := h.isCons
    obtain ⟨y, h4, h5⟩ := RpA.get (i := i) h3 (by simpa using e)
    exact ⟨y, by simpa using h4, h5⟩
theorem RpA.get' {H : Hp} : ∀ {ds : List PyData} {xs : List V} {i : Nat} {x : V}, RpA H ds xs → xs[i]? = some x → ∃ d, ds[i]? = some d ∧ Rp H d x
  | [], xs, _, _, h, e => by rw [h.isNil] at e; simp at e
  | d :: ds, xs, 0, _, h, e => by
    obtain ⟨x, r, rfl, h2, h3⟩ := h.isCons
    simp at e
    subst e
    exact ⟨d, rfl, h2⟩
  | d :: ds, xs, i + 1, _, h, e => by
    obtain ⟨x, r, rfl, h2, h3⟩ := h.isCons
    obtain ⟨y, h4, h5⟩ := RpA.get' (i := i) h3 (by simpa using e)
    exact ⟨y, by simpa using h4, h5⟩
theorem RpA.append {H : Hp} : ∀ {ds es : List PyData} {xs ys : List V}, RpA H ds xs → RpA H es ys → RpA H (ds ++ es) (xs ++ ys)
  | [], es, xs, ys, h, k => by rw [h.isNil]; exact k
  | d :: ds, es, xs, ys, h, k => by
    obtain ⟨x, r, rfl, h2, h3⟩ := h.isCons
    exact rpa_cons h2 (RpA.append h3 k)
theorem rpa_ints {H : Hp} : ∀ ns : List Int, RpA H (ns.map .int) (ns.map V.int)
  | [] => rpa_nil
  | n :: ns => rpa_cons (rp_int n) (rpa_ints ns)
theorem RpA.ints {H : Hp} : ∀ {ns : List Int} {xs : List V}, RpA H (ns.map .int) xs → xs = ns.map V.int
  | [], xs, h => h.isNil
  | n :: ns, xs, h => by
    obtain ⟨x, r, rfl, h2, h3⟩ := RpA.isCons (d := .int n) (ds := ns.map .int) h
    rw [h2.isInt, RpA.ints h3] <;> rfl
theorem RpA.bools {H : Hp} : ∀ {bs : List Bool} {xs : List V}, RpA H (bs.map .bool) xs → xs = bs.map V.bl
  | [], xs, h => h.isNil
  | b :: bs, xs, h => by
    obtain ⟨x, r, rfl, h2, h3⟩ := RpA.isCons (d := .bool b) (ds := bs.map .bool) h
    rw [h2.isBl, RpA.bools h3] <;> rfl
theorem RpA.strs {H : Hp} : ∀ {ss : List Str} {xs : List V}, RpA H (ss.map .str) xs → xs = ss.map V.str
  | [], xs, h => h.isNil
  | s :: ss, xs, h => by
    obtain ⟨x, r, rfl, h2, h3⟩ := RpA.isCons (d := .str s) (ds := ss.map .str) h
    rw [h2.isStr, RpA.strs h3] <;> rfl
theorem RpA.isOne {H : Hp} {d : PyData} {xs : List V} (h : RpA H [d] xs) : ∃ x, xs = [x] ∧ Rp H d x := by
  obtain ⟨x, r, rfl, h2, h3⟩ := h.isCons
  rw [h3.isNil]
  exact ⟨x, rfl, h2⟩
theorem RpA.isTwo {H : Hp} {d e : PyData} {xs : List V} (h : RpA H [d, e] xs) : ∃ x y, xs = [x, y] ∧ Rp H d x ∧ Rp H e y := by
  obtain ⟨x, r, rfl, h2, h3⟩ := h.isCons
  obtain ⟨y, rfl, h4⟩ := h3.isOne
  exact ⟨x, y, rfl, h2, h4⟩

theorem same_new {H : Hp} {p : Addr} {o : HO} (h : H p = none) : Same H (upd H p o) := fun b x e => by
  rw [upd_ne (ne_of_none e h)]
  exact e
theorem back_none {H H' : Hp} {p : Addr} (e : Same H H') (h : H' p = none) : H p = none := e.free h
theorem same_del {H : Hp} {a : Addr} : Same (del H a) H := fun b o e => by
  by_cases hb : b = a
  · rw [hb, del_same] at e; cases e
  · rwa [del_ne hb] at e
theorem del_mono {H H' : Hp} {a : Addr} (e : Same H H') : Same (del H a) (del H' a) := fun b o h => by
  by_cases hb : b = a
  · rw [hb, del_same] at h; cases h
  · rw [del_ne hb] at h ⊢
    exact e b o h
theorem del_upd {H : Hp} {a : Addr} {o : HO} : del (upd H a o) a = del H a := by
  funext b
  by_cases hb : b = a
  · rw [hb, del_same, del_same]
  · rw [del_ne hb, del_ne hb, upd_ne hb]
theorem del_none {H : Hp} {a : Addr} (h : H a = none) : del H a = H := by
  funext b
  by_cases hb : b = a
  · rw [hb, del_same, h]
  · rw [del_ne hb]
/-- what cannot be changed does not hang on a list at a -/
theorem Rp.del {H : Hp} {a : Addr} {xs : List V} (ha : H a = some (.lst xs)) {d : PyData} {v : V} (i : imm d = true) (h : Rp H d v) : Rp (L2.del H a) d v :=
  Rp.monoT (fun b ys e => by
    rw [del_ne (fun z => by rw [z, ha] at e; cases e)]
    exact e) d v i h

abbrev Env := List (Option PyData)
structure Sat (ρ : Pz.Env) (σ : L2.St) (H : Hp) : Prop where
  len : ρ.length ≤ σ.length
  at_ : ∀ (i : Nat) (d : PyData), ρ[i]? = some (some d) → ∃ v, σ[i]? = some (some v) ∧ Rp H d v
theorem Sat.mono {ρ : Pz.Env} {σ : L2.St} {H H' : Hp} (s : Sat ρ σ H) (e : Same H H') : Sat ρ σ H' := ⟨s.len, fun i d h => by
  obtain ⟨v, h1, h2⟩ := s.at_ i d h
  exact ⟨v, h1, Rp.mono e d v h2⟩⟩
theorem Sat.set {ρ : Pz.Env} {σ : L2.St} {H : Hp} (s : Sat ρ σ H) {i : Nat} {d : PyData} {v : V} (h : Rp H d v) : Sat (ρ.set i (some d)) (σ.set i (some v)) H := by
  refine ⟨by rw [List.length_set, List.length_set]; exact s.len, fun j e hj => ?_⟩
  by_cases hji : j = i
  · subst hji
    have hl : j < ρ.length := by
      obtain ⟨q, _⟩ := List.getElem?_eq_some_iff.mp hj
      rwa [List.length_set] at q
    rw [List.getElem?_set_self hl] at hj
    cases hj
    exact ⟨v, List.getElem?_set_self (Nat.lt_of_lt_of_le hl s.len), h⟩
  · rw [List.getElem?_set_ne (Ne.symm hji)] at hj
    obtain ⟨w, h1, h2⟩ := s.at_ j e hj
    exact ⟨w, by rw [List.getElem?_set_ne (Ne.symm hji)]; exact h1, h2⟩
/-- some slots are forgotten -/
def Fgt (ρ ρ' : Pz.Env) : Prop := ρ'.length ≤ ρ.length ∧ ∀ (i : Nat) (d : PyData), ρ'[i]? = some (some d) → ρ[i]? = some (some d)
theorem Sat.fgt {ρ ρ' : Pz.Env} {σ : L2.St} {H : Hp} (s : Sat ρ σ H) (f : Fgt ρ ρ') : Sat ρ' σ H := ⟨Nat.le_trans f.1 s.len, fun i d h => s.at_ i d (f.2 i d h)⟩
theorem Fgt.refl (ρ : Pz.Env) : Fgt ρ ρ := ⟨Nat.le_refl _, fun _ _ h => h⟩
theorem fgt_set (ρ : Pz.Env) (i : Nat) : Fgt ρ (ρ.set i none) := ⟨by rw [List.length_set]; exact Nat.le_refl _, fun j d h => by
  by_cases hji : j = i
  · subst hji
    by_cases hl : j < ρ.length
    · rw [List.getElem?_set_self hl] at h; cases h
    · rw [List.getElem?_eq_none (by rw [List.length_set]; omega)] at h; cases h
  · rwa [List.getElem?_set_ne (Ne.symm hji)] at h⟩
/-- .. checked place by place -/
def fgtB : Pz.Env → Pz.Env → Prop
  | _, [] => True
  | [], _ :: _ => False
  | x :: ρ, y :: ρ' => (y = none ∨ y = x) ∧ fgtB ρ ρ'
theorem fgt_of : ∀ {ρ ρ' : Pz.Env}, fgtB ρ ρ' → Fgt ρ ρ'
  | ρ, [], _ => ⟨Nat.zero_le _, fun _ _ h => by simp at h⟩
  | [], _ :: _, h => h.elim
  | x :: ρ, y :: ρ', h => by
    obtain ⟨h1, h2⟩ := h
    obtain ⟨a, b⟩ := fgt_of h2
    refine ⟨by rw [List.length_cons, List.length_cons]; omega, fun i d e => ?_⟩
    cases i with
    | zero =>
      have e' : y = some d := by simpa using e
      rcases h1 with h1 | h1
      · rw [h1] at e'; cases e'
      · simp [← h1, e']
    | succ i => simpa using b i d (by simpa using e)
theorem wipe_at {σ : L2.St} {i : Nat} : ∀ {vs : List Nat}, i ∉ vs → (wipe σ vs)[i]? = σ[i]?
  | [], _ => rfl
  | v :: vs, h => by
    show ((wipe σ vs).set v none)[i]? = σ[i]?
    rw [List.getElem?_set_ne (fun e => h (by rw [e]; exact List.mem_cons_self)), wipe_at (fun m => h (List.mem_cons_of_mem _ m))]
def wipeE (ρ : Pz.Env) : List Nat → Pz.Env
  | [] => ρ
  | v :: vs => (wipeE ρ vs).set v none
theorem wipeE_fgt (ρ : Pz.Env) : ∀ vs : List Nat, Fgt ρ (wipeE ρ vs)
  | [] => Fgt.refl ρ
  | v :: vs => by
    obtain ⟨a, b⟩ := wipeE_fgt ρ vs
    obtain ⟨c, d⟩ := fgt_set (wipeE ρ vs) v
    exact ⟨Nat.le_trans c a, fun i e h => b i e (d i e h)⟩
theorem wipeE_none {ρ : Pz.Env} {i : Nat} {d : PyData} : ∀ {vs : List Nat}, (wipeE ρ vs)[i]? = some (some d) → i ∉ vs
  | [], _ => by simp
  | v :: vs, h => by
    have h' : ((wipeE ρ vs).set v none)[i]? = some (some d) := h
    intro m
    rcases List.mem_cons.mp m with e | m
    · subst e
      by_cases hl : i < (wipeE ρ vs).length
      · rw [List.getElem?_set_self hl] at h'; cases h'
      · rw [List.getElem?_eq_none (by rw [List.length_set]; omega)] at h'; cases h'
    · exact wipeE_none ((fgt_set _ v).2 i d h') m
theorem Sat.wipe {ρ : Pz.Env} {σ : L2.St} {H : Hp} (s : Sat ρ σ H) (vs : List Nat) : Sat (wipeE ρ vs) (L2.wipe σ vs) H := by
  have s' := s.fgt (wipeE_fgt ρ vs)
  refine ⟨by rw [L2.wipe_length]; exact s'.len, fun i d h => ?_⟩
  obtain ⟨v, h1, h2⟩ := s'.at_ i d h
  exact ⟨v, by rw [wipe_at (wipeE_none h)]; exact h1, h2⟩

theorem PE_imp {X : Cx} {e : Expr} {t t' : TE} (h : PE X e t) (i : ∀ σ H Q, t' σ H Q → t σ H Q) : PE X e t' := ⟨fun pins s σ H Q I q => h.run pins s σ H Q I (i σ H Q q)⟩
theorem PT_imp {X : Cx} {e : Expr} {t t' : TT} (h : PT X e t) (i : ∀ σ H Q, t' σ H Q → t σ H Q) : PT X e t' := ⟨fun pins s σ H Q I q => h.run pins s σ H Q I (i σ H Q q)⟩
theorem PW_imp {X : Cx} {e : Expr} {t t' : TT} (h : PW X e t) (i : ∀ σ H Q, t' σ H Q → t σ H Q) : PW X e t' := ⟨fun w pins s σ H Q I q => h.run w pins s σ H Q I (i σ H Q q)⟩
theorem PTs_imp {X : Cx} {e : List Expr} {t t' : TT} (h : PTs X e t) (i : ∀ σ H Q, t' σ H Q → t σ H Q) : PTs X e t' := ⟨fun pins s σ H Q I q => h.run pins s σ H Q I (i σ H Q q)⟩
theorem PA_imp {X : Cx} {e : List Expr} {t t' : TA} (h : PA X e t) (i : ∀ σ H Q, t' σ H Q → t σ H Q) : PA X e t' := ⟨fun pos pins s σ H Q I q => h.run pos pins s σ H Q I (i σ H Q q)⟩
theorem PI_imp {X : Cx} {tg e : Expr} {t t' : TI} (h : PI X tg e t) (i : ∀ σ H Q, t' σ H Q → t σ H Q) : PI X tg e t' := ⟨fun pins s σ H Q I q => h.run pins s σ H Q I (i σ H Q q)⟩
theorem PS_imp {X : Cx} {e : Stmt} {t t' : TS} (h : PS X e t) (i : ∀ D σ H, t' D σ H → t D σ H) : PS X e t' := ⟨fun pins s σ H D I q => h.run pins s σ H D I (i D σ H q)⟩
theorem PSs_imp {X : Cx} {e : List Stmt} {t t' : TS} (h : PSs X e t) (i : ∀ D σ H, t' D σ H → t D σ H) : PSs X e t' := ⟨fun pins s σ H D I q => h.run pins s σ H D I (i D σ H q)⟩

def tD (ρ : Pz.Env) (d : PyData) : TE := fun σ H Q => Sat ρ σ H ∧ ∀ v H', Same H H' → Rp H' d v → Q v H'
/-- a new list -/
def tL (ρ : Pz.Env) (ds : List PyData) : TE := fun σ H Q => Sat ρ σ H ∧ ∀ p xs H', H p = none → Same H H' → H' p = some (.lst xs) → RpA H' ds xs → Q (.ref p) H'
def tDA (ρ : Pz.Env) (ds : List PyData) : TA := fun σ H Q => Sat ρ σ H ∧ ∀ vs H', Same H H' → RpA H' ds vs → Q vs H'
def tDT (ρ : Pz.Env) (b : Bool) : TT := fun σ H Q => Sat ρ σ H ∧ ∀ H', Same H H' → Q b H'
abbrev DE (X : Cx) (e : Expr) (ρ : Pz.Env) (d : PyData) : Prop := PE X e (tD ρ d)
abbrev DL (X : Cx) (e : Expr) (ρ : Pz.Env) (ds : List PyData) : Prop := PE X e (tL ρ ds)
abbrev DA (X : Cx) (es : List Expr) (ρ : Pz.Env) (ds : List PyData) : Prop := PA X es (tDA ρ ds)
abbrev DT (X : Cx) (e : Expr) (ρ : Pz.Env) (b : Bool) : Prop := PT X e (tDT ρ b)
abbrev DTs (X : Cx) (es : List Expr) (ρ : Pz.Env) (b : Bool) : Prop := PTs X es (tDT ρ b)
section
variable {X : Cx} {ρ : Pz.Env} {e a b : Expr} {es rest : List Expr} {pos p : Pos} {x : Str} {d da db : PyData} {ds : List PyData}
theorem de_dl (h : DL X e ρ ds) : DE X e ρ (.list ds) := PE_imp h fun σ H Q ⟨s, k⟩ => ⟨s, fun p xs H' _ e h1 h2 => k _ H' e (rp_lst h1 h2)⟩
theorem de_fgt {ρ' : Pz.Env} (h : DE X e ρ' d) (f : Fgt ρ ρ') : DE X e ρ d := PE_imp h fun σ H Q ⟨s, k⟩ => ⟨s.fgt f, k⟩
theorem de_of {d' : PyData} (h : DE X e ρ d') (q : d' = d) : DE X e ρ d := by rw [← q]; exact h
theorem dt_of {k k' : Bool} (h : DT X e ρ k') (q : k' = k) : DT X e ρ k := by rw [← q]; exact h
theorem dv (i : Nat) (h : ρ[i]? = some (some d) := by rfl) (hN : X.N[i]? = some x := by rfl) (hv : Vis X.env.scope x := by first | exact Or.inl rfl | exact Or.inr (Or.inl rfl) | exact Or.inr (Or.inr rfl))
    (hd : (x == ("__debug__" : Str)) = false := by decide) (hcd : (x == ("__classdict__" : Str)) = false := by decide) : DE X (.Name x pos) ρ d :=
  PE_imp (pe_var hN hv hd hcd) fun σ H Q ⟨s, k⟩ => by
    obtain ⟨v, h1, h2⟩ := s.at_ i d h
    exact ⟨v, h1, k v H (Same.refl H) h2⟩
theorem de_int {i : Int} {j : Nat} : DE X (.Constant (.int i) j pos) ρ (.int i) := PE_imp pe_int fun σ H Q ⟨s, k⟩ => k _ H (Same.refl H) (rp_int i)
theorem de_bl {i : Bool} {j : Nat} : DE X (.Constant (.bool i) j pos) ρ (.bool i) := PE_imp pe_bl fun σ H Q ⟨s, k⟩ => k _ H (Same.refl H) (rp_bl i)
theorem de_non {j : Nat} : DE X (.Constant .none j pos) ρ .none := PE_imp pe_non fun σ H Q ⟨s, k⟩ => k _ H (Same.refl H) rp_non
theorem de_str {i : Str} {j : Nat} : DE X (.Constant (.str i) j pos) ρ (.str i) := PE_imp pe_str fun σ H Q ⟨s, k⟩ => k _ H (Same.refl H) (rp_str i)
/-- a rule by values gives data from data -/
def R2D (r : R2) (da db d : PyData) : Prop := ∀ (H : Hp) (x y : V) (Q : VK), Rp H da x → Rp H db y → (∀ v H', Same H H' → Rp H' d v → Q v H') → r x y H Q
theorem tOp_D {r : R2} (hr : R2D r da db d) (σ : L2.St) (H : Hp) (Q : VK) (h : tD ρ d σ H Q) : tOp r (tD ρ da) (tD ρ db) σ H Q := by
  obtain ⟨s, k⟩ := h
  exact ⟨s, fun x H1 e1 r1 => ⟨s.mono e1, fun y H2 e2 r2 => hr H2 x y Q (Rp.mono e2 _ _ r1) r2 fun v H' e3 r3 => k v H' (e1.trans (e2.trans e3)) r3⟩⟩
theorem de_op {op : Operator} {r : R2} (ho : OpR X (binaryOp op) r) (ha : DE X a ρ da) (hb : DE X b ρ db) (hr : R2D r da db d) : DE X (.BinOp a op b pos) ρ d := PE_imp (pe_op ho ha hb) (tOp_D hr)
theorem de_cmp {op : CmpOp} {r : R2} (ho : OpR X (compareOp op) r) (ha : DE X a ρ da) (hb : DE X b ρ db) (hr : R2D r da db d) (hm : behindInMarks op b = false := by first | exact nomark _ | rfl) : DE X (.Compare a [op] [b] pos) ρ d := PE_imp (pe_cmpR ho ha hb hm) (tOp_D hr)
theorem dt_cmp {op : CmpOp} {r : R2} {k : Bool} (ho : OpR X (compareOp op) r) (ha : DE X a ρ da) (hb : DE X b ρ db) (hr : R2D r da db (.bool k)) (hm : behindInMarks op b = false := by first | exact nomark _ | rfl) : DT X (.Compare a [op] [b] pos) ρ k :=
  PT_imp (pt_cmpR ho ha hb hm) fun σ H Q ⟨s, q⟩ => tOp_D (ρ := ρ) hr σ H _ ⟨s, fun v H' e r => ⟨k, r.isBl, q H' e⟩⟩
theorem de_ix {r : R2} (ho : IxR X r) (ha : DE X a ρ da) (hb : DE X b ρ db) (hr : R2D r da db d) (hs : PlainIx b := by exact fun _ _ => rfl) : DE X (.Subscript a b pos) ρ d := PE_imp (pe_ix ho ha hb hs) (tOp_D hr)
theorem dt_val {k : Bool} (h : DE X e ρ (.bool k)) (he : ∀ whole, isTrue e X.env whole = (do let v ← whole; standAt e.pos; holding [v] (truthy v)) := by intro _; rfl) : DT X e ρ k :=
  PT_imp (pt_val h he) fun σ H Q ⟨s, q⟩ => ⟨s, fun v H' e r => ⟨k, r.isBl, q H' e⟩⟩
theorem dt_not {k : Bool} (h : DT X e ρ k) : DT X (.UnaryOp .Not e pos) ρ (!k) := PT_imp (pt_not h) fun σ H Q ⟨s, q⟩ => ⟨s, fun H' e => q H' e⟩
theorem de_not {k : Bool} (h : DE X e ρ (.bool k)) : DE X (.UnaryOp .Not e pos) ρ (.bool (!k)) := PE_imp (pe_not h) fun σ H Q ⟨s, q⟩ => ⟨s, fun v H' e r => ⟨k, r.isBl, q _ H' e (rp_bl _)⟩⟩
/-- several tests in a row -/
abbrev DW (X : Cx) (e : Expr) (ρ : Pz.Env) (b : Bool) : Prop := PW X e (tDT ρ b)
theorem dw_and1 {k : Bool} (h : DT X a ρ k) : DW X (.BoolOp .And [a] pos) ρ k := pw_and1 h
theorem dw_or1 {k : Bool} (h : DT X a ρ k) : DW X (.BoolOp .Or [a] pos) ρ k := pw_or1 h
theorem dw_and {k m : Bool} (h : DT X a ρ k) (g : k = true → DW X (.BoolOp .And (b :: rest) pos) ρ m) : DW X (.BoolOp .And (a :: b :: rest) pos) ρ (k && m) := by
  cases k with
  | true =>
    refine PW_imp (pw_and h (g rfl)) fun σ H Q ⟨s, q⟩ => ⟨s, fun H' e => ?_⟩
    exact iteT ⟨s.mono e, fun H2 e2 => q H2 (e.trans e2)⟩
  | false =>
    refine PW_imp (pw_and (tB' := fun _ _ _ => False) h ⟨fun _ _ _ _ _ _ _ z => z.elim⟩) fun σ H Q ⟨s, q⟩ => ⟨s, fun H' e => ?_⟩
    exact iteF (q H' e)
theorem dw_or {k m : Bool} (h : DT X a ρ k) (g : k = false → DW X (.BoolOp .Or (b :: rest) pos) ρ m) : DW X (.BoolOp .Or (a :: b :: rest) pos) ρ (k || m) := by
  cases k with
  | false =>
    refine PW_imp (pw_or h (g rfl)) fun σ H Q ⟨s, q⟩ => ⟨s, fun H' e => ?_⟩
    exact iteF ⟨s.mono e, fun H2 e2 => q H2 (e.trans e2)⟩
  | true =>
    refine PW_imp (pw_or (tB' := fun _ _ _ => False) h ⟨fun _ _ _ _ _ _ _ z => z.elim⟩) fun σ H Q ⟨s, q⟩ => ⟨s, fun H' e => ?_⟩
    exact iteT (q H' e)
theorem dt_w {k : Bool} (h : DW X e ρ k) : DT X e ρ k := h.pt
theorem de_one {op} (h : DE X a ρ d) : DE X (.BoolOp op [a] pos) ρ d := pe_one h
theorem de_and {k m : Bool} (h : DE X a ρ (.bool k)) (g : k = true → DE X (.BoolOp .And (b :: rest) pos) ρ (.bool m)) : DE X (.BoolOp .And (a :: b :: rest) pos) ρ (.bool (k && m)) := by
  cases k with
  | true =>
    refine PE_imp (pe_and h (g rfl)) fun σ H Q ⟨s, q⟩ => ⟨s, fun v H' e r => ⟨true, r.isBl, ?_⟩⟩
    exact iteT ⟨s.mono e, fun v2 H2 e2 r2 => q v2 H2 (e.trans e2) r2⟩
  | false =>
    refine PE_imp (pe_and (tb := fun _ _ _ => False) h ⟨fun _ _ _ _ _ _ z => z.elim⟩) fun σ H Q ⟨s, q⟩ => ⟨s, fun v H' e r => ⟨false, r.isBl, ?_⟩⟩
    exact iteF (q _ H' e (rp_bl _))
theorem dts_nil : DTs X [] ρ true := PTs_imp pts_nil fun σ H Q ⟨s, q⟩ => q H (Same.refl H)
theorem dts_one {k : Bool} (h : DT X e ρ k) : DTs X [e] ρ k := pts_one h
/-- arguments -/
theorem da_nil : DA X [] ρ [] := PA_imp pa_nil fun σ H Q ⟨s, q⟩ => q _ H (Same.refl H) rpa_nil
theorem da_cons (h : DE X e ρ d) (g : DA X es ρ ds) (hs : starEach (e :: es) X.env = (false, eval e X.env) :: starEach es X.env := by rfl) : DA X (e :: es) ρ (d :: ds) :=
  PA_imp (pa_cons h g hs) fun σ H Q ⟨s, q⟩ => ⟨s, fun v H1 e1 r1 => ⟨s.mono e1, fun vs H2 e2 r2 => q _ H2 (e1.trans e2) (rpa_cons (Rp.mono e2 _ _ r1) r2)⟩⟩
theorem da_one (h : DE X e ρ d) (hs : starEach (e :: []) X.env = (false, eval e X.env) :: starEach [] X.env := by rfl) : DA X [e] ρ [d] := da_cons h da_nil hs
/-- displays -/
theorem de_tup {x1 : Nat} (h : DA X es ρ ds) (hl : ds.length ≤ 1000 := by simp) : DE X (.Tuple es x1 pos) ρ (.tuple ds) := PE_imp (pe_tup h) fun σ H Q ⟨s, q⟩ => ⟨s, fun vs H1 e1 r1 =>
  ⟨by rw [r1.length]; exact Nat.le_of_lt (small1000 hl), fun p hp => q _ _ (e1.trans (same_new hp)) (rp_tup upd_same (RpA.mono (same_new hp) _ _ r1))⟩⟩
theorem dl_lst (h : DA X es ρ ds) (hl : ds.length ≤ 1000 := by simp) : DL X (.List es pos) ρ ds := PE_imp (pe_lst h) fun σ H Q ⟨s, q⟩ => ⟨s, fun vs H1 e1 r1 =>
  ⟨by rw [r1.length]; exact Nat.le_of_lt (small1000 hl), fun p hp => q _ _ _ (back_none e1 hp) (e1.trans (same_new hp)) upd_same (RpA.mono (same_new hp) _ _ r1)⟩⟩
/-- calls of what is built in -/
def RCD (r : List V → Hp → VK → Prop) (ds : List PyData) (d : PyData) : Prop := ∀ (H : Hp) (vs : List V) (Q : VK), RpA H ds vs → (∀ v H', Same H H' → Rp H' d v → Q v H') → r vs H Q
def RCL (r : List V → Hp → VK → Prop) (ds es : List PyData) : Prop := ∀ (H : Hp) (vs : List V) (Q : VK), RpA H ds vs → (∀ p xs H', H p = none → Same H H' → H' p = some (.lst xs) → RpA H' es xs → Q (.ref p) H') → r vs H Q
variable {id T : String} {r : List V → Hp → VK → Prop}
theorem de_callB (hc : CallR X (.builtin id) r) (hm : X.mg x = none) (hv : bootBuiltins x = some (.builtin id)) (ha : DA X (e :: es) ρ ds) (hr : RCD r ds d) (hg : Gl X x := by rfl) (hn : x ≠ "__name__" := by decide) (hdb : (x == ("__debug__" : Str)) = false := by decide)
    (he : starEach (e :: es) X.env = (false, eval e X.env) :: starEach es X.env := by rfl) (hpl : (backTo pos (starEach es X.env)).any (·.1) = false := by rfl) : DE X (.Call (.Name x p) (e :: es) [] pos) ρ d :=
  PE_imp (pe_callB hc hg hm hv ha hn hdb he hpl) fun σ H Q ⟨s, q⟩ => ⟨s, fun vs H1 e1 r1 => hr H1 vs Q r1 fun v H' e2 r2 => q v H' (e1.trans e2) r2⟩
theorem dl_callB (hc : CallR X (.builtin id) r) (hm : X.mg x = none) (hv : bootBuiltins x = some (.builtin id)) (ha : DA X (e :: es) ρ ds) {zs : List PyData} (hr : RCL r ds zs) (hg : Gl X x := by rfl) (hn : x ≠ "__name__" := by decide) (hdb : (x == ("__debug__" : Str)) = false := by decide)
    (he : starEach (e :: es) X.env = (false, eval e X.env) :: starEach es X.env := by rfl) (hpl : (backTo pos (starEach es X.env)).any (·.1) = false := by rfl) : DL X (.Call (.Name x p) (e :: es) [] pos) ρ zs :=
  PE_imp (pe_callB hc hg hm hv ha hn hdb he hpl) fun σ H Q ⟨s, q⟩ => ⟨s, fun vs H1 e1 r1 => hr H1 vs Q r1 fun p xs H' n e2 h r2 => q p xs H' (back_none e1 n) (e1.trans e2) h r2⟩
theorem de_callTy (hc : CallR X (.type T) r) (hm : X.mg x = none) (hv : bootBuiltins x = some (.type T)) (ha : DA X (e :: es) ρ ds) (hr : RCD r ds d) (hg : Gl X x := by rfl) (hn : x ≠ "__name__" := by decide) (hdb : (x == ("__debug__" : Str)) = false := by decide)
    (he : starEach (e :: es) X.env = (false, eval e X.env) :: starEach es X.env := by rfl) (hpl : (backTo pos (starEach es X.env)).any (·.1) = false := by rfl) : DE X (.Call (.Name x p) (e :: es) [] pos) ρ d :=
  PE_imp (pe_callTy hc hg hm hv ha hn hdb he hpl) fun σ H Q ⟨s, q⟩ => ⟨s, fun vs H1 e1 r1 => hr H1 vs Q r1 fun v H' e2 r2 => q v H' (e1.trans e2) r2⟩
end
end Pz

set_option Elab.async false
set_option linter.all false
set_option maxRecDepth 100000
set_option maxHeartbeats 2000000
namespace Pz
open PySem PySem.Spec PyProof.Rows L2

/-- J serves the items ds at every heap that extends H -/
def Serves (J : It) (H : Hp) (ds : List PyData) : Prop := ∀ H', Same H H' → (∀ i d, ds[i]? = some d → J.go i H' ∧ ∀ x H'', J.yld i H' x H'' → H'' = H' ∧ Rp H' d x) ∧ J.stop ds.length H'
def iD (ρ : Pz.Env) (ds : List PyData) : TI := fun σ H R => Sat ρ σ H ∧ ∀ J H', Same H H' → Serves J H' ds → R J H'
abbrev DI (X : Cx) (tg e : Expr) (ρ : Pz.Env) (ds : List PyData) : Prop := PI X tg e (iD ρ ds)
theorem serves_list {K : PySem.W.Frag} {H : Hp} {a : Addr} {xs : List V} {ds : List PyData} (h : H a = some (.lst xs)) (r : RpA H ds xs) : Serves (Itl K a) H ds := fun H' e => by
  have h' := e _ _ h
  refine ⟨fun i d hd => ?_, ⟨xs, SqL.of h', by rw [r.length]; exact Nat.le_refl _⟩⟩
  obtain ⟨x, hx, rx⟩ := r.get hd
  refine ⟨⟨xs, x, SqL.of h', hx⟩, fun y H'' hy => ⟨hy.1, ?_⟩⟩
  have q := hy.2 xs (SqL.of h')
  rw [hx] at q
  cases q
  exact Rp.mono e _ _ rx
theorem serves_tup {K : PySem.W.Frag} {H : Hp} {a : Addr} {xs : List V} {ds : List PyData} (h : H a = some (.tup xs)) (r : RpA H ds xs) : Serves (Itt K a) H ds := fun H' e => by
  have h' := e _ _ h
  refine ⟨fun i d hd => ?_, ⟨xs, SqT.of h', by rw [r.length]; exact Nat.le_refl _⟩⟩
  obtain ⟨x, hx, rx⟩ := r.get hd
  refine ⟨⟨xs, x, SqT.of h', hx⟩, fun y H'' hy => ⟨hy.1, ?_⟩⟩
  have q := hy.2 xs (SqT.of h')
  rw [hx] at q
  cases q
  exact Rp.mono e _ _ rx
/-- lo, lo + 1, .. -/
def rgD (lo : Int) (n : Nat) : List PyData := (List.range n).map fun (i : Nat) => PyData.int (lo + (i : Int))
theorem rgD_at {lo : Int} {n i : Nat} {d : PyData} (h : (rgD lo n)[i]? = some d) : i < n ∧ d = .int (lo + (i : Int)) := by
  unfold rgD at h
  rw [List.getElem?_map] at h
  by_cases hi : i < n
  · rw [List.getElem?_range hi] at h
    exact ⟨hi, by simpa using h.symm⟩
  · rw [List.getElem?_eq_none (by simpa using hi)] at h
    cases h
theorem rgD_length (lo : Int) (n : Nat) : (rgD lo n).length = n := by unfold rgD; simp
theorem serves_rng (lo : Int) (n : Nat) (H : Hp) : Serves (Itr lo n) H (rgD lo n) := fun H' e => by
  refine ⟨fun i d hd => ?_, by rw [rgD_length]; exact Nat.le_refl _⟩
  obtain ⟨hi, rfl⟩ := rgD_at hd
  refine ⟨hi, fun x H'' hy => ?_⟩
  obtain ⟨h1, h2⟩ := hy
  subst h2
  exact ⟨h1, rp_int _⟩
section
variable {X : Cx} {ρ : Pz.Env} {e a b tg : Expr} {pos p : Pos} {ds : List PyData}
theorem di_list (h : DE X e ρ (.list ds)) : DI X tg e ρ ds := PI_imp (pi_list h) fun σ H R ⟨s, k⟩ => ⟨s, fun v H' e1 r => by
  obtain ⟨a, xs, rfl, h1, h2⟩ := r.isLst
  exact ⟨a, rfl, ⟨xs, SqL.of h1⟩, k _ H' e1 (serves_list h1 h2)⟩⟩
theorem di_tup (h : DE X e ρ (.tuple ds)) : DI X tg e ρ ds := PI_imp (pi_tup h) fun σ H R ⟨s, k⟩ => ⟨s, fun v H' e1 r => by
  obtain ⟨a, xs, rfl, h1, h2⟩ := r.isTup
  exact ⟨a, rfl, ⟨xs, SqT.of h1⟩, k _ H' e1 (serves_tup h1 h2)⟩⟩
/-- a range, told as such -/
def iR (ρ : Pz.Env) (lo : Int) (n : Nat) : TI := fun σ H R => Sat ρ σ H ∧ ∀ H', Same H H' → R (Itr lo n) H'
abbrev DR (X : Cx) (tg e : Expr) (ρ : Pz.Env) (lo : Int) (n : Nat) : Prop := PI X tg e (iR ρ lo n)
theorem di_dr {lo : Int} {n : Nat} (h : DR X tg e ρ lo n) : DI X tg e ρ (rgD lo n) := PI_imp h fun σ H R ⟨s, k⟩ => ⟨s, fun H' e1 => k _ H' e1 (serves_rng lo n H')⟩
theorem dr_1 {n : Nat} (hm : X.mg "range" = none) (h : DE X a ρ (.int n)) (hn : n ≤ 1000) (hg : Gl X "range" := by rfl) (na : starEach (a :: []) X.env = (false, eval a X.env) :: starEach [] X.env := by rfl)
    (hs : starEach [a] X.env = [(false, eval a X.env)] := by rfl) : DR X tg (.Call (.Name "range" p) [a] [] pos) ρ 0 n :=
  PI_imp (pi_range1 hg hm (da_one h na) hs) fun σ H R ⟨s, k⟩ => ⟨s, fun vs H' e1 r => by
    obtain ⟨x, rfl, r1⟩ := r.isOne
    refine ⟨n, by rw [r1.isInt], by omega, by omega, ?_⟩
    have q := k H' e1
    simpa using q⟩
theorem dr_2 {lo hi : Int} (hm : X.mg "range" = none) (ha : DE X a ρ (.int lo)) (hb : DE X b ρ (.int hi)) (hl : -1000 ≤ lo ∧ lo ≤ 1000 ∧ -1000 ≤ hi ∧ hi ≤ 1000) (hg : Gl X "range" := by rfl)
    (na : starEach (a :: [b]) X.env = (false, eval a X.env) :: starEach [b] X.env := by rfl) (nb : starEach (b :: []) X.env = (false, eval b X.env) :: starEach [] X.env := by rfl)
    (hs : starEach [a, b] X.env = [(false, eval a X.env), (false, eval b X.env)] := by rfl) (hs2 : starEach [b] X.env = [(false, eval b X.env)] := by rfl) : DR X tg (.Call (.Name "range" p) [a, b] [] pos) ρ lo (hi - lo).toNat :=
  PI_imp (pi_range2 hg hm (da_cons ha (da_one hb nb) na) hs hs2) fun σ H R ⟨s, k⟩ => ⟨s, fun vs H' e1 r => by
    obtain ⟨x, y, rfl, r1, r2⟩ := r.isTwo
    refine ⟨lo, hi, by rw [r1.isInt, r2.isInt], by omega, ?_⟩
    exact k H' e1⟩
end

/-- the new list at D holds what is made so far, all else extends H -/
def LcAt (H : Hp) (D : Addr) (es : List PyData) (H' : Hp) : Prop := H D = none ∧ Same H (L2.del H' D) ∧ ∃ xs, H' D = some (.lst xs) ∧ RpA (L2.del H' D) es xs
section
variable {X : Cx} {ρ : Pz.Env} {elt iter : Expr} {ifs : List Expr} {scope : Scope} {pos p : Pos} {x : Str} {i : Nat} {α : Type} {xs : List α} {enc : α → PyData}
theorem take_more {α : Type} {l : List α} {i : Nat} {d : α} (h : l[i]? = some d) : l.take (i + 1) = l.take i ++ [d] := by
  rw [List.take_add_one, h]
  rfl
theorem lcat_more {H H' : Hp} {D : Addr} {es : List PyData} {acc : List V} {d : PyData} {y : V} (h : H D = none) (e : Same H (L2.del H' D)) (hD : H' D = some (.lst acc)) (r : RpA (L2.del H' D) es acc) (im : imm d = true) (ry : Rp H' d y) :
    LcAt H D (es ++ [d]) (upd H' D (.lst (acc ++ [y]))) := by
  refine ⟨h, by rw [del_upd]; exact e, acc ++ [y], upd_same, ?_⟩
  rw [del_upd]
  exact RpA.append r (rpa_cons (Rp.del hD im ry) rpa_nil)
def lcT (ρ : Pz.Env) (i : Nat) (enc : α → PyData) (xs : List α) (f : α → Bool) : TT := fun σ H Q => ∃ a, a ∈ xs ∧ tDT ((ρ.set i none).set i (some (enc a))) (f a) σ H Q
def lcE (ρ : Pz.Env) (i : Nat) (enc : α → PyData) (xs : List α) (f : α → Bool) (g : α → PyData) : TE := fun σ H Q => ∃ a, a ∈ xs ∧ f a = true ∧ tD ((ρ.set i none).set i (some (enc a))) (g a) σ H Q
theorem lc_imp {f : α → Bool} {g : α → PyData} (im : ∀ a ∈ xs, f a = true → imm (g a) = true) (hl : xs.length ≤ 1000) (σ : L2.St) (H : Hp) (Q : VK) (h : tL ρ ((xs.filter f).map g) σ H Q) :
    tLc (iD ρ (xs.map enc)) (gName i) (lcT ρ i enc xs f) (lcE ρ i enc xs f g) [i] σ H Q := by
  obtain ⟨sat, k⟩ := h
  refine ⟨sat, fun J H1 e1 sv D hD => ?_⟩
  have sat1 : Sat (ρ.set i none) (wipe σ [i]) H1 := (sat.mono e1).wipe [i]
  refine ⟨fun n m H' => n + m = xs.length ∧ LcAt H1 D (((xs.take n).filter f).map g) H', ⟨xs.length, by omega, hD, ?_, [], upd_same, rpa_nil⟩, fun n m H' hw => ?_⟩
  · rw [del_upd, del_none hD]; exact Same.refl H1
  obtain ⟨hnm, h1, h2, acc, h3, h4⟩ := hw
  have e2 : Same H1 H' := h2.trans same_del
  have alen : acc.length ≤ n := by
    rw [h4.length, List.length_map]
    exact Nat.le_trans (List.length_filter_le _ _) (by rw [List.length_take]; exact Nat.min_le_left _ _)
  by_cases hn : n < xs.length
  · have hd : xs[n]? = some xs[n] := List.getElem?_eq_getElem hn
    have hmem : xs[n] ∈ xs := List.getElem_mem hn
    obtain ⟨go, yl⟩ := (sv H' e2).1 n (enc xs[n]) (by rw [List.getElem?_map, hd]; rfl)
    refine .inr ⟨go, fun H3 => LcAt H1 D (((xs.take (n + 1)).filter f).map g) H3, fun H3 q => ⟨m - 1, by omega, by omega, q⟩, fun v H3 hy => ?_⟩
    obtain ⟨rfl, rv⟩ := yl v H3 hy
    have satv : Sat ((ρ.set i none).set i (some (enc xs[n]))) ((wipe σ [i]).set i (some v)) H3 := (sat1.mono e2).set rv
    refine ⟨?_, xs[n], hmem, satv, fun H4 e4 => ?_⟩
    · show (((σ.set i none).set i (some v)).set i none) = σ.set i none
      rw [List.set_set, List.set_set]
    have h2' : Same H1 (L2.del H4 D) := h2.trans (del_mono e4)
    have h3' := e4 _ _ h3
    have h4' := RpA.mono (del_mono (a := D) e4) _ _ h4
    cases hf : f xs[n] with
    | true =>
      refine iteT ⟨xs[n], hmem, hf, satv.mono e4, fun y H5 e5 ry => ⟨acc, e5 _ _ h3', small1000 (by omega), ?_⟩⟩
      rw [take_more hd, List.filter_append, List.map_append]
      have q : (([xs[n]].filter f).map g) = [g xs[n]] := by simp [hf]
      rw [q]
      exact lcat_more h1 (h2'.trans (del_mono e5)) (e5 _ _ h3') (RpA.mono (del_mono (a := D) e5) _ _ h4') (im _ hmem hf) ry
    | false =>
      refine iteF ?_
      rw [take_more hd, List.filter_append, List.map_append]
      have q : (([xs[n]].filter f).map g) = [] := by simp [hf]
      rw [q, List.append_nil]
      exact ⟨h1, h2', acc, h3', h4'⟩
  · have en : n = xs.length := by omega
    subst en
    have st := (sv H' e2).2
    rw [List.length_map] at st
    refine .inl ⟨st, ?_⟩
    rw [List.take_length] at h4
    exact k D acc H' (back_none e1 h1) (e1.trans e2) h3 (RpA.mono same_del _ _ h4)
/-- [elt for x in iter if ..] -/
theorem dl_lc (f : α → Bool) (g : α → PyData) (hc : X.calm = true) (hN : X.N.Nodup) (hit : DI X (.Name x p) iter ρ (xs.map enc)) 
    (ht : ∀ (s : Shared) (H : Hp) (C : Addr) (cl : List (Str × Addr)) (fp : List Addr) (a : α), a ∈ xs → DTs (X.blk s H scope (compEnvC scope cl C X.env) fp) ifs ((ρ.set i none).set i (some (enc a))) (f a))
    (he : ∀ (s : Shared) (H : Hp) (C : Addr) (cl : List (Str × Addr)) (fp : List Addr) (a : α), a ∈ xs → f a = true → DE (X.blk s H scope (compEnvC scope cl C X.env) fp) elt ((ρ.set i none).set i (some (enc a))) (g a))
    (im : ∀ a ∈ xs, f a = true → imm (g a) = true) (hl : xs.length ≤ 1000) (hi : X.N[i]? = some x := by rfl) (hlk : Loc (relS scope X.env.scope) x := by first | exact .inl rfl | exact .inr rfl) (hlf : ∀ (s : Shared) (H : Hp) (C : Addr) (cl : List (Str × Addr)) (fp : List Addr), (X.blk s H scope (compEnvC scope cl C X.env) fp).fn x = true ∨ (X.blk s H scope (compEnvC scope cl C X.env) fp).env.scope.names.lookup x = some .local := by intro _ _ _ _ _; first | exact .inl rfl | exact .inr rfl) (ok : blkC X.N X.env.scope scope [(x, i)] = true := by kernel_rfl) (hs : ∀ x, foldedSetIterable iter X.env x = pure x := by intro _; rfl) :
    DL X (.ListComp elt [⟨.Name x p, iter, ifs, 0⟩] scope pos) ρ ((xs.filter f).map g) :=
  PE_imp (pe_lc (X := X) (g := gName i) (pos := pos) (tt := lcT ρ i enc xs f) (te := lcE ρ i enc xs f g) hc hN hit (blkOk_by ok) (fun s H C cl fp => pg_name hN hi hlk (hlf s H C cl fp))
    (fun s H C cl fp => ⟨fun pins s' σ H' Q I q => by obtain ⟨d, m, q⟩ := q; exact (ht s H C cl fp d m).run pins s' σ H' Q I q⟩)
    (fun s H C cl fp => ⟨fun pins s' σ H' Q I q => by obtain ⟨d, m, hf, q⟩ := q; exact (he s H C cl fp d m hf).run pins s' σ H' Q I q⟩) hs) (lc_imp im hl)
/-- y = [elt for x in iter if ..], y a local name -/
theorem pl_lc {y : Str} {j : Nat} {py spos : Pos} (f : α → Bool) (g : α → PyData) (hc : X.calm = true) (hN : X.N.Nodup) (hit : DI X (.Name x p) iter ρ (xs.map enc)) 
    (ht : ∀ (s : Shared) (H : Hp) (C : Addr) (cl : List (Str × Addr)) (fp : List Addr) (a : α), a ∈ xs → DTs (X.blk s H scope (compEnvC scope cl C X.env) fp) ifs ((ρ.set i none).set i (some (enc a))) (f a))
    (he : ∀ (s : Shared) (H : Hp) (C : Addr) (cl : List (Str × Addr)) (fp : List Addr) (a : α), a ∈ xs → f a = true → DE (X.blk s H scope (compEnvC scope cl C X.env) fp) elt ((ρ.set i none).set i (some (enc a))) (g a))
    (im : ∀ a ∈ xs, f a = true → imm (g a) = true) (hl : xs.length ≤ 1000) (hi : X.N[i]? = some x := by rfl) (hlk : Loc (relS scope X.env.scope) x := by first | exact .inl rfl | exact .inr rfl) (hlf : ∀ (s : Shared) (H : Hp) (C : Addr) (cl : List (Str × Addr)) (fp : List Addr), (X.blk s H scope (compEnvC scope cl C X.env) fp).fn x = true ∨ (X.blk s H scope (compEnvC scope cl C X.env) fp).env.scope.names.lookup x = some .local := by intro _ _ _ _ _; first | exact .inl rfl | exact .inr rfl) (ok : blkC X.N X.env.scope scope [(x, i)] = true := by kernel_rfl) (hy : X.N[j]? = some y := by rfl) (hyl : X.env.scope.names.lookup y = some .local := by rfl)
    (hsw : swapsWith (.ListComp elt [⟨.Name x p, iter, ifs, 0⟩] scope pos) (some (.Name y py)) spos.line X.env = pure true := by exact sw_true rfl rfl rfl (by decide +kernel)) (hs : ∀ x, foldedSetIterable iter X.env x = pure x := by intro _; rfl) :
    PS X (.Assign [.Name y py] (.ListComp elt [⟨.Name x p, iter, ifs, 0⟩] scope pos) spos) (tAsg (tL ρ ((xs.filter f).map g)) (gName j)) :=
  PS_imp (ps_setLc (X := X) (g := gName i) (pos := pos) (tt := lcT ρ i enc xs f) (te := lcE ρ i enc xs f g) hc hN hy hyl hsw hit (blkOk_by ok) (fun s H C cl fp => pg_name hN hi hlk (hlf s H C cl fp))
    (fun s H C cl fp => ⟨fun pins s' σ H' Q I q => by obtain ⟨d, m, q⟩ := q; exact (ht s H C cl fp d m).run pins s' σ H' Q I q⟩)
    (fun s H C cl fp => ⟨fun pins s' σ H' Q I q => by obtain ⟨d, m, hf, q⟩ := q; exact (he s H C cl fp d m hf).run pins s' σ H' Q I q⟩) hs) fun D σ H h => lc_imp im hl σ H _ h
theorem filt_all : xs.filter (fun _ => true) = xs := List.filter_eq_self.mpr (fun _ _ => rfl)
/-- without a test -/
theorem dl_map (g : α → PyData) (hc : X.calm = true) (hN : X.N.Nodup) (hit : DI X (.Name x p) iter ρ (xs.map enc)) 
    (he : ∀ (s : Shared) (H : Hp) (C : Addr) (cl : List (Str × Addr)) (fp : List Addr) (a : α), a ∈ xs → DE (X.blk s H scope (compEnvC scope cl C X.env) fp) elt ((ρ.set i none).set i (some (enc a))) (g a))
    (im : ∀ a ∈ xs, imm (g a) = true) (hl : xs.length ≤ 1000) (hi : X.N[i]? = some x := by rfl) (hlk : Loc (relS scope X.env.scope) x := by first | exact .inl rfl | exact .inr rfl) (hlf : ∀ (s : Shared) (H : Hp) (C : Addr) (cl : List (Str × Addr)) (fp : List Addr), (X.blk s H scope (compEnvC scope cl C X.env) fp).fn x = true ∨ (X.blk s H scope (compEnvC scope cl C X.env) fp).env.scope.names.lookup x = some .local := by intro _ _ _ _ _; first | exact .inl rfl | exact .inr rfl) (ok : blkC X.N X.env.scope scope [(x, i)] = true := by kernel_rfl) (hs : ∀ x, foldedSetIterable iter X.env x = pure x := by intro _; rfl) :
    DL X (.ListComp elt [⟨.Name x p, iter, [], 0⟩] scope pos) ρ (xs.map g) := by
  have h := dl_lc (pos := pos) (fun _ => true) g hc hN hit (fun _ _ _ _ _ _ _ => dts_nil) (fun s H C cl fp d m _ => he s H C cl fp d m) (fun d m _ => im d m) hl hi hlk hlf ok hs
  rw [filt_all] at h
  exact h
theorem pl_map {y : Str} {j : Nat} {py spos : Pos} (g : α → PyData) (hc : X.calm = true) (hN : X.N.Nodup) (hit : DI X (.Name x p) iter ρ (xs.map enc)) 
    (he : ∀ (s : Shared) (H : Hp) (C : Addr) (cl : List (Str × Addr)) (fp : List Addr) (a : α), a ∈ xs → DE (X.blk s H scope (compEnvC scope cl C X.env) fp) elt ((ρ.set i none).set i (some (enc a))) (g a))
    (im : ∀ a ∈ xs, imm (g a) = true) (hl : xs.length ≤ 1000) (hi : X.N[i]? = some x := by rfl) (hlk : Loc (relS scope X.env.scope) x := by first | exact .inl rfl | exact .inr rfl) (hlf : ∀ (s : Shared) (H : Hp) (C : Addr) (cl : List (Str × Addr)) (fp : List Addr), (X.blk s H scope (compEnvC scope cl C X.env) fp).fn x = true ∨ (X.blk s H scope (compEnvC scope cl C X.env) fp).env.scope.names.lookup x = some .local := by intro _ _ _ _ _; first | exact .inl rfl | exact .inr rfl) (ok : blkC X.N X.env.scope scope [(x, i)] = true := by kernel_rfl) (hy : X.N[j]? = some y := by rfl) (hyl : X.env.scope.names.lookup y = some .local := by rfl)
    (hsw : swapsWith (.ListComp elt [⟨.Name x p, iter, [], 0⟩] scope pos) (some (.Name y py)) spos.line X.env = pure true := by exact sw_true rfl rfl rfl (by decide +kernel)) (hs : ∀ x, foldedSetIterable iter X.env x = pure x := by intro _; rfl) :
    PS X (.Assign [.Name y py] (.ListComp elt [⟨.Name x p, iter, [], 0⟩] scope pos) spos) (tAsg (tL ρ (xs.map g)) (gName j)) := by
  have h := pl_lc (pos := pos) (spos := spos) (fun _ => true) g hc hN hit (fun _ _ _ _ _ _ _ => dts_nil) (fun s H C cl fp d m _ => he s H C cl fp d m) (fun d m _ => im d m) hl hi hlk hlf ok hy hyl hsw hs
  rw [filt_all] at h
  exact h
end
end Pz

set_option Elab.async false
set_option linter.all false
set_option maxRecDepth 100000
set_option maxHeartbeats 2000000
namespace Pz
open PySem PySem.Spec PyProof.Rows L2

def nat (n : Nat) : PyData := .int (n : Int)
def lotD (l : List Nat) : PyData := .tuple (l.map nat)
def lotsD (ls : List (List Nat)) : PyData := .tuple (ls.map lotD)
def marksD (ms : List Nat) : PyData := .list (ms.map nat)
theorem nat_map (l : List Nat) : l.map nat = (l.map fun (n : Nat) => (n : Int)).map .int := by
  rw [List.map_map]
  rfl
theorem rgD_nat (n : Nat) : rgD 0 n = (List.range n).map nat := by
  unfold rgD nat
  refine List.map_congr_left fun i _ => ?_
  rw [Int.zero_add]
theorem immA_nats : ∀ l : List Nat, immA (l.map nat) = true
  | [] => by simp [immA]
  | n :: l => by
    show immA (nat n :: l.map nat) = true
    rw [immA, immA_nats l]
    simp [nat, imm]
theorem imm_nat (n : Nat) : imm (nat n) = true := by simp [nat, imm]
theorem imm_lot (l : List Nat) : imm (lotD l) = true := by
  unfold lotD
  rw [imm]
  exact immA_nats l
theorem immA_lots : ∀ ls : List (List Nat), immA (ls.map lotD) = true
  | [] => by simp [immA]
  | l :: ls => by
    show immA (lotD l :: ls.map lotD) = true
    rw [immA, immA_lots ls, imm_lot] <;> rfl
theorem imm_lots (ls : List (List Nat)) : imm (lotsD ls) = true := by
  unfold lotsD
  rw [imm]
  exact immA_lots ls
theorem imm_bool (b : Bool) : imm (.bool b) = true := by simp [imm]
theorem imm_int (b : Int) : imm (.int b) = true := by simp [imm]
theorem imm_str (b : Str) : imm (.str b) = true := by simp [imm]

section
variable {K : PySem.W.Frag}
theorem r2_I0 {g : Int → Int → Int} {i j : Int} : R2D (rI0 fun i j => .int (g i j)) (.int i) (.int j) (.int (g i j)) := fun H x y Q rx ry k => ⟨i, j, rx.isInt, ry.isInt, k _ H (Same.refl H) (rp_int _)⟩
theorem r2_B0 {g : Int → Int → Bool} {i j : Int} : R2D (rI0 fun i j => .bl (g i j)) (.int i) (.int j) (.bool (g i j)) := fun H x y Q rx ry k => ⟨i, j, rx.isInt, ry.isInt, k _ H (Same.refl H) (rp_bl _)⟩
theorem r2_I {C : Int → Int → Prop} {g : Int → Int → Int} {i j : Int} (hc : C i j) : R2D (rI C fun i j => .int (g i j)) (.int i) (.int j) (.int (g i j)) := fun H x y Q rx ry k => ⟨i, j, rx.isInt, ry.isInt, hc, k _ H (Same.refl H) (rp_int _)⟩
theorem r2_eqI {i j : Int} : R2D rEq (.int i) (.int j) (.bool (i == j)) := fun H x y Q rx ry k => by
  rw [rx.isInt, ry.isInt]
  refine ⟨rfl, ?_⟩
  rw [dec_int]
  exact k _ H (Same.refl H) (rp_bl _)
theorem r2_neI {i j : Int} : R2D rNe (.int i) (.int j) (.bool (!(i == j))) := fun H x y Q rx ry k => by
  rw [rx.isInt, ry.isInt]
  refine ⟨rfl, ?_⟩
  rw [dec_int]
  exact k _ H (Same.refl H) (rp_bl _)
theorem r2_neB {i j : Bool} : R2D rNe (.bool i) (.bool j) (.bool (!(i == j))) := fun H x y Q rx ry k => by
  rw [rx.isBl, ry.isBl]
  refine ⟨rfl, ?_⟩
  rw [dec_bl]
  exact k _ H (Same.refl H) (rp_bl _)
theorem r2_eqS {i j : Str} : R2D rEq (.str i) (.str j) (.bool (i == j)) := fun H x y Q rx ry k => by
  rw [rx.isStr, ry.isStr]
  refine ⟨rfl, ?_⟩
  rw [dec_str]
  exact k _ H (Same.refl H) (rp_bl _)
theorem r2_neS {i j : Str} : R2D rNe (.str i) (.str j) (.bool (!(i == j))) := fun H x y Q rx ry k => by
  rw [rx.isStr, ry.isStr]
  refine ⟨rfl, ?_⟩
  rw [dec_str]
  exact k _ H (Same.refl H) (rp_bl _)
theorem r2_eqD {d e : PyData} (h1 : SeqAt.shaped d = true) (h2 : SeqAt.shaped e = true) : R2D (rEqD K) d e (.bool (PyData.eqv d e)) := fun H x y Q rx ry k => ⟨d, e, Rp.dp _ _ (PyData.hasDict_of_canLay _ (SeqAt.canLay_of_shaped h1)) rx, Rp.dp _ _ (PyData.hasDict_of_canLay _ (SeqAt.canLay_of_shaped h2)) ry, h1, h2, k _ H (Same.refl H) (rp_bl _)⟩
theorem r2_neD {d e : PyData} (h1 : SeqAt.shaped d = true) (h2 : SeqAt.shaped e = true) : R2D (rNeD K) d e (.bool (!PyData.eqv d e)) := fun H x y Q rx ry k => ⟨d, e, Rp.dp _ _ (PyData.hasDict_of_canLay _ (SeqAt.canLay_of_shaped h1)) rx, Rp.dp _ _ (PyData.hasDict_of_canLay _ (SeqAt.canLay_of_shaped h2)) ry, h1, h2, k _ H (Same.refl H) (rp_bl _)⟩
theorem r2_notInD {d : PyData} {ds : List PyData} (h1 : SeqAt.shaped d = true) (h2 : SeqAt.shaped (.list ds) = true) : R2D (rNotInD K) d (.list ds) (.bool (!ds.any fun z => PyData.eqv z d)) := fun H x y Q rx ry k => ⟨d, ds, Rp.dp _ _ (PyData.hasDict_of_canLay _ (SeqAt.canLay_of_shaped h1)) rx, Rp.dp _ _ (PyData.hasDict_of_canLay _ (SeqAt.canLay_of_shaped h2)) ry, h1, h2, k _ H (Same.refl H) (rp_bl _)⟩
/-- x in .., numbers -/
theorem inV_ints (k : Int) : ∀ ns : List Int, inV (.int k) (ns.map V.int) = ns.contains k
  | [] => rfl
  | n :: ns => by
    have ih := inV_ints k ns
    unfold inV at ih ⊢
    rw [List.map_cons, List.any_cons, ih, List.contains_cons]
    show ((n == k) || ns.contains k) = ((k == n) || ns.contains k)
    rw [show (n == k) = (k == n) from Bool.eq_iff_iff.mpr ⟨fun h => beq_iff_eq.mpr (beq_iff_eq.mp h).symm, fun h => beq_iff_eq.mpr (beq_iff_eq.mp h).symm⟩]
theorem flat_ints : ∀ ns : List Int, (ns.map V.int).all flatV = true
  | [] => rfl
  | n :: ns => by rw [List.map_cons, List.all_cons, flat_ints ns] <;> rfl
theorem inV_strs (k : Str) : ∀ ns : List Str, inV (.str k) (ns.map V.str) = ns.contains k
  | [] => rfl
  | n :: ns => by
    have ih := inV_strs k ns
    unfold inV at ih ⊢
    rw [List.map_cons, List.any_cons, ih, List.contains_cons]
    show ((n == k) || ns.contains k) = ((k == n) || ns.contains k)
    rw [show (n == k) = (k == n) from Bool.eq_iff_iff.mpr ⟨fun h => beq_iff_eq.mpr (beq_iff_eq.mp h).symm, fun h => beq_iff_eq.mpr (beq_iff_eq.mp h).symm⟩]
theorem flat_strs : ∀ ns : List Str, (ns.map V.str).all flatV = true
  | [] => rfl
  | n :: ns => by rw [List.map_cons, List.all_cons, flat_strs ns] <;> rfl
theorem contains_nat (k : Nat) (l : List Nat) : (l.map fun (n : Nat) => (n : Int)).contains (k : Int) = decide (k ∈ l) := by
  rw [Bool.eq_iff_iff]
  simp only [List.contains_iff_mem, List.mem_map, decide_eq_true_eq]
  exact ⟨fun ⟨a, m, e⟩ => by
    have e' : a = k := by omega
    subst e'
    exact m, fun m => ⟨k, m, rfl⟩⟩
theorem r2_inT {k : Int} {ns : List Int} : R2D (rIn K false) (.int k) (.tuple (ns.map .int)) (.bool (ns.contains k)) := fun H x y Q rx ry q => by
  obtain ⟨a, xs, rfl, h1, h2⟩ := ry.isTup
  have e := h2.ints
  subst e
  rw [rx.isInt]
  refine ⟨a, ns.map V.int, rfl, .inr (SqT.of h1), rfl, flat_ints ns, ?_⟩
  rw [if_neg Bool.false_ne_true, inV_ints]
  exact q _ H (Same.refl H) (rp_bl _)
theorem r2_niT {k : Int} {ns : List Int} : R2D (rIn K true) (.int k) (.tuple (ns.map .int)) (.bool (!ns.contains k)) := fun H x y Q rx ry q => by
  obtain ⟨a, xs, rfl, h1, h2⟩ := ry.isTup
  have e := h2.ints
  subst e
  rw [rx.isInt]
  refine ⟨a, ns.map V.int, rfl, .inr (SqT.of h1), rfl, flat_ints ns, ?_⟩
  rw [if_pos rfl, inV_ints]
  exact q _ H (Same.refl H) (rp_bl _)
theorem r2_inL {k : Int} {ns : List Int} : R2D (rIn K false) (.int k) (.list (ns.map .int)) (.bool (ns.contains k)) := fun H x y Q rx ry q => by
  obtain ⟨a, xs, rfl, h1, h2⟩ := ry.isLst
  have e := h2.ints
  subst e
  rw [rx.isInt]
  refine ⟨a, ns.map V.int, rfl, .inl (SqL.of h1), rfl, flat_ints ns, ?_⟩
  rw [if_neg Bool.false_ne_true, inV_ints]
  exact q _ H (Same.refl H) (rp_bl _)
theorem r2_niL {k : Int} {ns : List Int} : R2D (rIn K true) (.int k) (.list (ns.map .int)) (.bool (!ns.contains k)) := fun H x y Q rx ry q => by
  obtain ⟨a, xs, rfl, h1, h2⟩ := ry.isLst
  have e := h2.ints
  subst e
  rw [rx.isInt]
  refine ⟨a, ns.map V.int, rfl, .inl (SqL.of h1), rfl, flat_ints ns, ?_⟩
  rw [if_pos rfl, inV_ints]
  exact q _ H (Same.refl H) (rp_bl _)
theorem r2_niLS {k : Str} {ns : List Str} : R2D (rIn K true) (.str k) (.list (ns.map .str)) (.bool (!ns.contains k)) := fun H x y Q rx ry q => by
  obtain ⟨a, xs, rfl, h1, h2⟩ := ry.isLst
  have e := h2.strs
  subst e
  rw [rx.isStr]
  refine ⟨a, ns.map V.str, rfl, .inl (SqL.of h1), rfl, flat_strs ns, ?_⟩
  rw [if_pos rfl, inV_strs]
  exact q _ H (Same.refl H) (rp_bl _)
/-- .. of plain numbers -/
theorem r2_inLot {k : Nat} {l : List Nat} : R2D (rIn K false) (nat k) (lotD l) (.bool (decide (k ∈ l))) := by
  have h := r2_inT (K := K) (k := (k : Int)) (ns := l.map fun (n : Nat) => (n : Int))
  rw [contains_nat, ← nat_map] at h
  exact h
theorem r2_niLot {k : Nat} {l : List Nat} : R2D (rIn K true) (nat k) (lotD l) (.bool (!decide (k ∈ l))) := by
  have h := r2_niT (K := K) (k := (k : Int)) (ns := l.map fun (n : Nat) => (n : Int))
  rw [contains_nat, ← nat_map] at h
  exact h
theorem r2_inMarks {k : Nat} {l : List Nat} : R2D (rIn K false) (nat k) (marksD l) (.bool (decide (k ∈ l))) := by
  have h := r2_inL (K := K) (k := (k : Int)) (ns := l.map fun (n : Nat) => (n : Int))
  rw [contains_nat, ← nat_map] at h
  exact h
theorem r2_niMarks {k : Nat} {l : List Nat} : R2D (rIn K true) (nat k) (marksD l) (.bool (!decide (k ∈ l))) := by
  have h := r2_niL (K := K) (k := (k : Int)) (ns := l.map fun (n : Nat) => (n : Int))
  rw [contains_nat, ← nat_map] at h
  exact h
theorem beq_nat (a b : Nat) : ((a : Int) == (b : Int)) = (a == b) := by
  rw [Bool.eq_iff_iff, beq_iff_eq, beq_iff_eq]
  exact ⟨fun h => by omega, fun h => by omega⟩
theorem r2_eqN {i j : Nat} : R2D rEq (nat i) (nat j) (.bool (i == j)) := by
  have h := r2_eqI (i := (i : Int)) (j := (j : Int))
  rw [beq_nat] at h
  exact h
theorem r2_neN {i j : Nat} : R2D rNe (nat i) (nat j) (.bool (!(i == j))) := by
  have h := r2_neI (i := (i : Int)) (j := (j : Int))
  rw [beq_nat] at h
  exact h
/-- items by place -/
theorem r2_ixL {ds : List PyData} {i : Int} {k : Nat} {d : PyData} (hi : i = (k : Int)) (h : ds[k]? = some d) : R2D (rIxL K) (.list ds) (.int i) d := fun H x y Q rx ry q => by
  obtain ⟨a, xs, rfl, h1, h2⟩ := rx.isLst
  obtain ⟨v, h3, h4⟩ := h2.get h
  subst hi
  exact ⟨a, xs, (k : Int), v, rfl, ry.isInt, SqL.of h1, atI_nat h3, q v H (Same.refl H) h4⟩
theorem r2_ixT {ds : List PyData} {i : Int} {k : Nat} {d : PyData} (hi : i = (k : Int)) (h : ds[k]? = some d) : R2D (rIxT K) (.tuple ds) (.int i) d := fun H x y Q rx ry q => by
  obtain ⟨a, xs, rfl, h1, h2⟩ := rx.isTup
  obtain ⟨v, h3, h4⟩ := h2.get h
  subst hi
  exact ⟨a, xs, (k : Int), v, rfl, ry.isInt, SqT.of h1, atI_nat h3, q v H (Same.refl H) h4⟩
/-- tuples, lists put together -/
theorem r2_catT {ds es : List PyData} (hz : ds.length + es.length ≤ 1000) : R2D (rCatA K) (.tuple ds) (.tuple es) (.tuple (ds ++ es)) := fun H x y Q rx ry q => by
  obtain ⟨a, xs, rfl, h1, h2⟩ := rx.isTup
  obtain ⟨b, ys, rfl, h3, h4⟩ := ry.isTup
  have l1 := h2.length
  have l2 := h4.length
  refine ⟨a, b, xs, ys, rfl, rfl, SqT.of h1, SqT.of h3, Nat.le_of_lt (small1000 (by omega)), fun e => ?_, fun _ e => ?_, fun _ _ p hp => ?_⟩
  · subst e
    have e0 : ds = [] := List.eq_nil_of_length_eq_zero (by rw [← l1]; rfl)
    subst e0
    exact q _ H (Same.refl H) (rp_tup h3 h4)
  · subst e
    have e0 : es = [] := List.eq_nil_of_length_eq_zero (by rw [← l2]; rfl)
    subst e0
    rw [List.append_nil] at q
    exact q _ H (Same.refl H) (rp_tup h1 h2)
  · exact q _ _ (same_new hp) (rp_tup upd_same (RpA.mono (same_new hp) _ _ (RpA.append h2 h4)))
theorem r2_catL {ds es : List PyData} (hz : ds.length + es.length ≤ 1000) : R2D rCat (.list ds) (.list es) (.list (ds ++ es)) := fun H x y Q rx ry q => by
  obtain ⟨a, xs, rfl, h1, h2⟩ := rx.isLst
  obtain ⟨b, ys, rfl, h3, h4⟩ := ry.isLst
  have l1 := h2.length
  have l2 := h4.length
  refine ⟨a, b, xs, ys, rfl, rfl, h1, h3, Nat.le_of_lt (small1000 (by omega)), fun p hp => ?_⟩
  exact q _ _ (same_new hp) (rp_lst upd_same (RpA.mono (same_new hp) _ _ (RpA.append h2 h4)))
theorem rc_lenL {ds : List PyData} : RCD (fun xs H Q => ∃ p ys, xs = [.ref p] ∧ (SqL K H p ys ∨ SqT K H p ys) ∧ Q (.int ys.length) H) [.list ds] (nat ds.length) := fun H vs Q r q => by
  obtain ⟨x, rfl, r1⟩ := r.isOne
  obtain ⟨a, xs, rfl, h1, h2⟩ := r1.isLst
  refine ⟨a, xs, rfl, .inl (SqL.of h1), ?_⟩
  rw [h2.length]
  exact q _ H (Same.refl H) (rp_int _)
theorem rc_lenT {ds : List PyData} : RCD (fun xs H Q => ∃ p ys, xs = [.ref p] ∧ (SqL K H p ys ∨ SqT K H p ys) ∧ Q (.int ys.length) H) [.tuple ds] (nat ds.length) := fun H vs Q r q => by
  obtain ⟨x, rfl, r1⟩ := r.isOne
  obtain ⟨a, xs, rfl, h1, h2⟩ := r1.isTup
  refine ⟨a, xs, rfl, .inr (SqT.of h1), ?_⟩
  rw [h2.length]
  exact q _ H (Same.refl H) (rp_int _)
theorem rc_sum {ns : List Int} : RCD (rSum K) [.list (ns.map .int)] (.int ns.sum) := fun H vs Q r q => by
  obtain ⟨x, rfl, r1⟩ := r.isOne
  obtain ⟨a, xs, rfl, h1, h2⟩ := r1.isLst
  rw [h2.ints] at h1
  exact ⟨a, ns, rfl, SqL.of h1, q _ H (Same.refl H) (rp_int _)⟩
theorem rc_any {bs : List Bool} : RCD (rAny K) [.list (bs.map .bool)] (.bool (bs.any id)) := fun H vs Q r q => by
  obtain ⟨x, rfl, r1⟩ := r.isOne
  obtain ⟨a, xs, rfl, h1, h2⟩ := r1.isLst
  rw [h2.bools] at h1
  exact ⟨a, bs, rfl, SqL.of h1, q _ H (Same.refl H) (rp_bl _)⟩
theorem rc_all {bs : List Bool} : RCD (rAll K) [.list (bs.map .bool)] (.bool (bs.all id)) := fun H vs Q r q => by
  obtain ⟨x, rfl, r1⟩ := r.isOne
  obtain ⟨a, xs, rfl, h1, h2⟩ := r1.isLst
  rw [h2.bools] at h1
  exact ⟨a, bs, rfl, SqL.of h1, q _ H (Same.refl H) (rp_bl _)⟩
theorem rc_tup {ds : List PyData} : RCD (fun xs H Q => ∃ p ys, xs = [.ref p] ∧ ((SqL K H p ys ∧ ∀ l, H l = none → Q (.ref l) (upd H l (.tup ys))) ∨ (SqT K H p ys ∧ Q (.ref p) H))) [.list ds] (.tuple ds) := fun H vs Q r q => by
  obtain ⟨x, rfl, r1⟩ := r.isOne
  obtain ⟨a, xs, rfl, h1, h2⟩ := r1.isLst
  exact ⟨a, xs, rfl, .inl ⟨SqL.of h1, fun l hl => q _ _ (same_new hl) (rp_tup upd_same (RpA.mono (same_new hl) _ _ h2))⟩⟩
theorem rl_list {ds : List PyData} : RCL (fun xs H Q => ∃ p ys, xs = [.ref p] ∧ (SqL K H p ys ∨ SqT K H p ys) ∧ ∀ l, H l = none → Q (.ref l) (upd H l (.lst ys))) [.tuple ds] ds := fun H vs Q r q => by
  obtain ⟨x, rfl, r1⟩ := r.isOne
  obtain ⟨a, xs, rfl, h1, h2⟩ := r1.isTup
  exact ⟨a, xs, rfl, .inr (SqT.of h1), fun l hl => q _ _ _ hl (same_new hl) upd_same (RpA.mono (same_new hl) _ _ h2)⟩
theorem rc_int {i : Int} : RCD (fun xs H Q => (∃ i, xs = [.int i] ∧ Q (.int i) H) ∨ ∃ k, xs = [.bl k] ∧ Q (.int (if k then 1 else 0)) H) [.int i] (.int i) := fun H vs Q r q => by
  obtain ⟨x, rfl, r1⟩ := r.isOne
  rw [r1.isInt]
  exact .inl ⟨i, rfl, q _ H (Same.refl H) (rp_int _)⟩
end
/-- the built-in type of a datum -/
def tyD : PyData → String
  | .none => "NoneType"
  | .bool _ => "bool"
  | .int _ => "int"
  | .str _ => "str"
  | .list _ => "list"
  | .tuple _ => "tuple"
  | .dict _ => "dict"
def noD : PyData → Bool
  | .dict _ => false
  | _ => true
theorem tyD_of {K : PySem.W.Frag} {H : Hp} {v : V} : ∀ {d : PyData}, noD d = true → Rp H d v → TyX K H v (.type (tyD d))
  | .none, _, h => by rw [h.isNon]; exact .base .non
  | .bool b, _, h => by rw [h.isBl]; exact .base (.bl b)
  | .int i, _, h => by rw [h.isInt]; exact .base (.int i)
  | .str x, _, h => by rw [h.isStr]; exact .base (.str x)
  | .list ds, _, h => by
    obtain ⟨a, xs, rfl, h1, _⟩ := h.isLst
    exact .base (.lst h1)
  | .tuple ds, _, h => by
    obtain ⟨a, xs, rfl, h1, _⟩ := h.isTup
    exact .base (.tup h1)
  | .dict _, c, h => by cases c
section
variable {X : Cx} {ρ : Pz.Env} {e a b : Expr} {pos p p2 p3 : Pos} {x : Str} {d : PyData} {k : Bool} {T : String}
/-- isinstance(e, T) -/
theorem de_isi (hm : X.mg "isinstance" = none) (hx : X.mg x = none) (hT : bootBuiltins x = some (.type T)) (hd0 : noD d = true) (he : DE X e ρ d) (hk : kitB (tyD d) T = some k) (hg : Gl X "isinstance" := by rfl) (hgx : Gl X x := by rfl) (hn : x ≠ "__name__" := by decide) (hd : (x == ("__debug__" : Str)) = false := by decide)
    (s1 : starEach (e :: [.Name x p2]) X.env = (false, eval e X.env) :: starEach [.Name x p2] X.env := by rfl) (s2 : starEach (.Name x p2 :: []) X.env = (false, eval (.Name x p2) X.env) :: starEach [] X.env := by rfl)
    (hpl : (backTo pos (starEach [.Name x p2] X.env)).any (·.1) = false := by rfl) : DE X (.Call (.Name "isinstance" p) [e, .Name x p2] [] pos) ρ (.bool k) :=
  PE_imp (pe_callB (call_isi) hg hm (by decide +kernel) (pa_cons he (pa_cons (pe_bltn (v := .ty T) hgx hx hT rfl hn hd) pa_nil s2) s1) (by decide) (by decide) s1 hpl) fun σ H Q ⟨s, q⟩ =>
    ⟨s, fun v H1 e1 r1 => ⟨v, .ty T, .type (tyD d), .type T, k, rfl, .ty T, tyD_of hd0 r1, kit_ty hk, q _ H1 e1 (rp_bl _)⟩⟩
/-- tuple(range(n)) -/
theorem rgV_nat (n : Nat) : rgV 0 (n : Int) = (List.range n).map fun (i : Nat) => V.int (i : Int) := by
  unfold rgV
  rw [show ((n : Int) - 0).toNat = n by omega]
  refine List.map_congr_left fun i _ => ?_
  rw [Int.zero_add]
theorem rpa_range {H : Hp} (n : Nat) : RpA H ((List.range n).map nat) (rgV 0 (n : Int)) := by
  rw [rgV_nat, nat_map]
  have h := rpa_ints (H := H) ((List.range n).map fun (i : Nat) => (i : Int))
  have e : ((List.range n).map fun (i : Nat) => (i : Int)).map V.int = (List.range n).map fun (i : Nat) => V.int (i : Int) := by
    rw [List.map_map]
    rfl
  rw [e] at h
  exact h
theorem de_tupRange {n : Nat} (hc : X.calm = true) (hm : X.mg "tuple" = none) (hm2 : X.mg "range" = none) (h : DE X a ρ (nat n)) (hn : n ≤ 1000) (hg : Gl X "tuple" := by rfl) (hg2 : Gl X "range" := by rfl)
    (na : starEach [a] X.env = (false, eval a X.env) :: starEach [] X.env := by rfl) (nb : starEach [.Call (.Name "range" p2) [a] [] p3] X.env = (false, eval (.Call (.Name "range" p2) [a] [] p3) X.env) :: starEach [] X.env := by rfl) :
    DE X (.Call (.Name "tuple" p) [.Call (.Name "range" p2) [a] [] p3] [] pos) ρ (lotD (List.range n)) :=
  PE_imp (pe_tupRg hc hg hm (prg_1 hg2 hm2 h na) nb) fun σ H Q ⟨s, q⟩ => ⟨s, fun v H1 e1 r1 => ⟨n, r1.isInt, RgOk.of_le (by omega) (by omega) (by omega) (by omega), fun l hl =>
    q _ _ (e1.trans (same_new hl)) (rp_tup upd_same (rpa_range n))⟩⟩
end
section
variable {X : Cx} {ρ : Pz.Env} {a tg : Expr} {pos p : Pos}
theorem di_r1 {n : Nat} (hm : X.mg "range" = none) (h : DE X a ρ (nat n)) (hn : n ≤ 1000) (hg : Gl X "range" := by rfl) (na : starEach (a :: []) X.env = (false, eval a X.env) :: starEach [] X.env := by rfl)
    (hs : starEach [a] X.env = [(false, eval a X.env)] := by rfl) : DI X tg (.Call (.Name "range" p) [a] [] pos) ρ ((List.range n).map nat) := by
  rw [← rgD_nat]
  exact di_dr (dr_1 hm h hn hg na hs)
end
end Pz

set_option Elab.async false
set_option linter.all false
set_option maxRecDepth 100000
set_option maxHeartbeats 2000000
namespace Pz
open PySem PySem.Spec PyProof.Rows L2

abbrev As := L2.St → Hp → Prop
/-- Z's ends are D's -/
def Le (Z D : Ends) : Prop := (∀ σ H, Z.nx σ H → D.nx σ H) ∧ (∀ v H, Z.rt v H → D.rt v H) ∧ (∀ σ H, Z.bk σ H → D.bk σ H) ∧ (∀ σ H, Z.ct σ H → D.ct σ H)
theorem Le.refl (Z : Ends) : Le Z Z := ⟨fun _ _ h => h, fun _ _ h => h, fun _ _ h => h, fun _ _ h => h⟩
theorem Le.trans {A B C : Ends} (a : Le A B) (b : Le B C) : Le A C := ⟨fun σ H h => b.1 σ H (a.1 σ H h), fun v H h => b.2.1 v H (a.2.1 v H h), fun σ H h => b.2.2.1 σ H (a.2.2.1 σ H h), fun σ H h => b.2.2.2 σ H (a.2.2.2 σ H h)⟩
def tS (P : As) (Z : Ends) : TS := fun D σ H => P σ H ∧ Le Z D
abbrev HS (X : Cx) (st : Stmt) (P : As) (Z : Ends) : Prop := PS X st (tS P Z)
abbrev HSs (X : Cx) (sts : List Stmt) (P : As) (Z : Ends) : Prop := PSs X sts (tS P Z)
def Stab (P : As) : Prop := ∀ σ H H', P σ H → Same H H' → P σ H'
/-- all that was tracked at H0 stands; the slots hold ρ -/
def At (H0 : Hp) (ρ : Pz.Env) : As := fun σ H => Same H0 H ∧ Sat ρ σ H
def RetD (H0 : Hp) (d : PyData) : VK := fun v H => Same H0 H ∧ Rp H d v
def RetL (H0 : Hp) (ds : List PyData) : VK := fun v H => ∃ p xs, v = .ref p ∧ H0 p = none ∧ Same H0 H ∧ H p = some (.lst xs) ∧ RpA H ds xs
theorem at_stab {H0 : Hp} {ρ : Pz.Env} : Stab (At H0 ρ) := fun σ H H' h e => ⟨h.1.trans e, h.2.mono e⟩
theorem At.fgt {H0 : Hp} {ρ ρ' : Pz.Env} {σ : L2.St} {H : Hp} (h : At H0 ρ σ H) (f : Fgt ρ ρ') : At H0 ρ' σ H := ⟨h.1, h.2.fgt f⟩
theorem At.base {H0 H1 : Hp} {ρ : Pz.Env} {σ : L2.St} {H : Hp} (h : At H1 ρ σ H) (e : Same H0 H1) : At H0 ρ σ H := ⟨e.trans h.1, h.2⟩
theorem RetD.base {H0 H1 : Hp} {d : PyData} (e : Same H0 H1) : ∀ v H, RetD H1 d v H → RetD H0 d v H := fun v H h => ⟨e.trans h.1, h.2⟩
theorem RetL.base {H0 H1 : Hp} {d : List PyData} (e : Same H0 H1) : ∀ v H, RetL H1 d v H → RetL H0 d v H := fun v H ⟨p, xs, h1, h2, h3, h4, h5⟩ => ⟨p, xs, h1, e.free h2, e.trans h3, h4, h5⟩
theorem RetL.d {H0 : Hp} {d : List PyData} : ∀ v H, RetL H0 d v H → RetD H0 (.list d) v H := fun v H ⟨p, xs, h1, h2, h3, h4, h5⟩ => ⟨h3, by rw [h1]; exact rp_lst h4 h5⟩
section
variable {X : Cx} {st : Stmt} {rest : List Stmt} {P P' M : As} {Z Z' : Ends} {H0 : Hp} {ρ ρ' : Pz.Env} {e c : Expr} {pos p : Pos} {x : Str} {d : PyData} {ds es : List PyData} {i k : Nat}
theorem hs_seq (h1 : HS X st P { Z with nx := M }) (h2 : HSs X rest M Z) : HSs X (st :: rest) P Z :=
  PSs_imp (pss_cons h1 h2) fun D σ H ⟨p, l⟩ => ⟨p, fun σ' H' m => ⟨m, l⟩, l.2.1, l.2.2.1, l.2.2.2⟩
theorem hs_one (h : HS X st P Z) : HSs X [st] P Z := pss_one h
theorem hs_nil (h : ∀ σ H, P σ H → Z.nx σ H) : HSs X [] P Z := PSs_imp pss_nil fun D σ H ⟨p, l⟩ => l.1 σ H (h σ H p)
theorem hs_w (h : HS X st P Z') (l : Le Z' Z) : HS X st P Z := PS_imp h fun D σ H ⟨p, m⟩ => ⟨p, l.trans m⟩
theorem hss_w (h : HSs X rest P Z') (l : Le Z' Z) : HSs X rest P Z := PSs_imp h fun D σ H ⟨p, m⟩ => ⟨p, l.trans m⟩
theorem hs_pre (h : HS X st P Z) (l : ∀ σ H, P' σ H → P σ H) : HS X st P' Z := PS_imp h fun D σ H ⟨p, m⟩ => ⟨l σ H p, m⟩
theorem hss_pre (h : HSs X rest P Z) (l : ∀ σ H, P' σ H → P σ H) : HSs X rest P' Z := PSs_imp h fun D σ H ⟨p, m⟩ => ⟨l σ H p, m⟩
theorem hs_pass (h : ∀ σ H, P σ H → Z.nx σ H) : HS X (.Pass pos) P Z := PS_imp ps_pass fun D σ H ⟨p, l⟩ => l.1 σ H (h σ H p)
theorem hs_cont (h : ∀ σ H, P σ H → Z.ct σ H) : HS X (.Continue pos) P Z := PS_imp ps_continue fun D σ H ⟨p, l⟩ => l.2.2.2 σ H (h σ H p)
/-- return -/
theorem hs_retG (he : DE X e ρ d) (hP : ∀ σ H, P σ H → Sat ρ σ H) (k : ∀ σ H v H', P σ H → Same H H' → Rp H' d v → Z.rt v H') : HS X (.Return (some e) pos) P Z :=
  PS_imp (ps_ret he) fun D σ H ⟨p, l⟩ => ⟨hP σ H p, fun v H' e1 r => l.2.1 _ _ (k σ H v H' p e1 r)⟩
theorem hs_ret (he : DE X e ρ d) (k : ∀ v H, RetD H0 d v H → Z.rt v H := by exact fun _ _ h => h) : HS X (.Return (some e) pos) (At H0 ρ) Z :=
  hs_retG he (fun _ _ p => p.2) fun σ H v H' p e1 r => k _ _ ⟨p.1.trans e1, r⟩
theorem hs_retL (he : DL X e ρ ds) (k : ∀ v H, RetL H0 ds v H → Z.rt v H := by exact fun _ _ h => h) : HS X (.Return (some e) pos) (At H0 ρ) Z :=
  PS_imp (ps_ret he) fun D σ H ⟨p, l⟩ => ⟨p.2, fun q xs H' n e1 h r => l.2.1 _ _ (k _ _ ⟨q, xs, rfl, p.1.free n, p.1.trans e1, h, r⟩)⟩
/-- x = e -/
theorem hs_setG (hN : X.N.Nodup) (hi : X.N[i]? = some x) (hx : Loc X.env.scope x) (he : DE X e ρ d) (hP : ∀ σ H, P σ H → Sat ρ σ H) (k : ∀ σ H v H', P σ H → Same H H' → Rp H' d v → Z.nx (σ.set i (some v)) H')
    (hs : swapsWith e (some (.Name x p)) pos.line X.env = pure false := by rfl) (hf : X.fn x = true ∨ X.env.scope.names.lookup x = some .local := by first | exact .inl rfl | exact .inr rfl) : HS X (.Assign [.Name x p] e pos) P Z :=
  PS_imp (ps_set hN hi hx he hs hf) fun D σ H ⟨q, l⟩ => ⟨hP σ H q, fun v H' e1 r => l.1 _ _ (k σ H v H' q e1 r)⟩
theorem hs_set (hN : X.N.Nodup) (he : DE X e ρ d) (hi : X.N[i]? = some x := by rfl) (hx : Loc X.env.scope x := by first | exact .inl rfl | exact .inr rfl) (hs : swapsWith e (some (.Name x p)) pos.line X.env = pure false := by rfl)
    (hf : X.fn x = true ∨ X.env.scope.names.lookup x = some .local := by first | exact .inl rfl | exact .inr rfl) : HS X (.Assign [.Name x p] e pos) (At H0 ρ) { Z with nx := At H0 (ρ.set i (some d)) } :=
  hs_setG hN hi hx he (fun _ _ p => p.2) (fun σ H v H' p e1 r => ⟨p.1.trans e1, (p.2.mono e1).set r⟩) hs hf
theorem hs_setF (hN : X.N.Nodup) (he : DE X e ρ d) (f : Fgt (ρ.set i (some d)) ρ') (hi : X.N[i]? = some x := by rfl) (hx : Loc X.env.scope x := by first | exact .inl rfl | exact .inr rfl) (hs : swapsWith e (some (.Name x p)) pos.line X.env = pure false := by rfl)
    (hf : X.fn x = true ∨ X.env.scope.names.lookup x = some .local := by first | exact .inl rfl | exact .inr rfl) : HS X (.Assign [.Name x p] e pos) (At H0 ρ) { Z with nx := At H0 ρ' } :=
  hs_setG hN hi hx he (fun _ _ p => p.2) (fun σ H v H' p e1 r => ⟨p.1.trans e1, ((p.2.mono e1).set r).fgt f⟩) hs hf
/-- an expression alone -/
theorem hs_exprG (he : DE X e ρ d) (hP : ∀ σ H, P σ H → Sat ρ σ H) (k : ∀ σ H v H', P σ H → Same H H' → Rp H' d v → Z.nx σ H') (hs : swapsWith e none pos.line X.env = pure false := by rfl) : HS X (.Expr e pos) P Z :=
  PS_imp (ps_expr he hs) fun D σ H ⟨q, l⟩ => ⟨hP σ H q, fun v H' e1 r => l.1 _ _ (k σ H v H' q e1 r)⟩
/-- if -/
theorem hs_ifG {A B : List Stmt} {b : Bool} (hc : DT X c ρ b) (hP : ∀ σ H, P σ H → Sat ρ σ H) (hst : Stab P) (h1 : b = true → HSs X A P Z) (h2 : b = false → HSs X B P Z) : HS X (.If c A B pos) P Z := by
  cases b with
  | true => exact PS_imp (ps_if hc (h1 rfl) pss_never) fun D σ H ⟨p, l⟩ => ⟨hP σ H p, fun H' e => iteT ⟨hst σ H H' p e, l⟩⟩
  | false => exact PS_imp (ps_if hc pss_never (h2 rfl)) fun D σ H ⟨p, l⟩ => ⟨hP σ H p, fun H' e => iteF ⟨hst σ H H' p e, l⟩⟩
theorem hs_if {A B : List Stmt} {b : Bool} (hc : DT X c ρ b) (h1 : b = true → HSs X A (At H0 ρ) Z) (h2 : b = false → HSs X B (At H0 ρ) Z) : HS X (.If c A B pos) (At H0 ρ) Z := hs_ifG hc (fun _ _ p => p.2) at_stab h1 h2
/-- for x in items: a turn is shown over any base that extends H0 -/
theorem hs_for {iter : Expr} {body : List Stmt} {J : Nat → Pz.Env} (hp : PassesOwn (model X.prog X.w) X.A X.env X.xe) (hc : X.calm = true) (hit : DI X (.Name x p) iter ρ ds) (hg : PG X (.Name x p) (gName k)) (h0 : Fgt ρ (J 0))
    (hb : ∀ H1, Same H0 H1 → ∀ i d, ds[i]? = some d → HSs X body (At H1 ((J i).set k (some d))) { nx := At H1 (J (i + 1)), rt := Z.rt, ct := At H1 (J (i + 1)) })
    (hd : ∀ σ H, At H0 (J ds.length) σ H → Z.nx σ H) (hs : ∀ x, foldedSetIterable iter X.env x = pure x := by intro _; rfl) : HS X (.For (.Name x p) iter body [] pos) (At H0 ρ) Z := by
  refine PS_imp (ps_for (tb := fun D σ H => ∃ H1 i d, Same H0 H1 ∧ ds[i]? = some d ∧ tS (At H1 ((J i).set k (some d))) { nx := At H1 (J (i + 1)), rt := Z.rt, ct := At H1 (J (i + 1)) } D σ H) hp hc hit hg
    ⟨fun pins s σ H D I q => by obtain ⟨H1, i, d, e1, hd, q⟩ := q; exact (hb H1 e1 i d hd).run pins s σ H D I q⟩ hs) fun D σ H ⟨q, l⟩ => ⟨q.2, fun J1 H1 e1 sv => ?_⟩
  refine ⟨fun n m σ' H' => n + m = ds.length ∧ At H1 (J n) σ' H', ⟨ds.length, by omega, Same.refl H1, (q.2.mono e1).fgt h0⟩, fun n m σ' H' hw => ?_⟩
  obtain ⟨hnm, ha⟩ := hw
  by_cases hn : n < ds.length
  · have hd : ds[n]? = some ds[n] := List.getElem?_eq_getElem hn
    obtain ⟨go, yl⟩ := (sv H' ha.1).1 n _ hd
    refine .inr ⟨go, At H1 (J (n + 1)), fun σ2 H2 q2 => ⟨m - 1, by omega, by omega, q2⟩, fun v H3 hy => ?_⟩
    obtain ⟨rfl, rv⟩ := yl v H3 hy
    exact ⟨H1, n, ds[n], q.1.trans e1, hd, ⟨ha.1, ha.2.set rv⟩, fun _ _ h => h, l.2.1, fun _ _ h => False.elim h, fun _ _ h => h⟩
  · have en : n = ds.length := by omega
    subst en
    exact .inl ⟨(sv H' ha.1).2, l.1 _ _ (hd σ' H' (ha.base (q.1.trans e1)))⟩

/-- .. the items by what they stand for -/
theorem hs_forT {iter : Expr} {body : List Stmt} {J : Nat → Pz.Env} {α : Type} {xs : List α} {enc : α → PyData} (hp : PassesOwn (model X.prog X.w) X.A X.env X.xe) (hc : X.calm = true) (hit : DI X (.Name x p) iter ρ (xs.map enc)) (hg : PG X (.Name x p) (gName k)) (h0 : Fgt ρ (J 0))
    (hb : ∀ H1, Same H0 H1 → ∀ i a, xs[i]? = some a → HSs X body (At H1 ((J i).set k (some (enc a)))) { nx := At H1 (J (i + 1)), rt := Z.rt, ct := At H1 (J (i + 1)) })
    (hd : ∀ σ H, At H0 (J xs.length) σ H → Z.nx σ H) (hs : ∀ x, foldedSetIterable iter X.env x = pure x := by intro _; rfl) : HS X (.For (.Name x p) iter body [] pos) (At H0 ρ) Z :=
  hs_for (J := J) hp hc hit hg h0 (fun H1 e1 i d h => by
    rw [List.getElem?_map] at h
    obtain ⟨a, h1, rfl⟩ := Option.map_eq_some_iff.mp h
    exact hb H1 e1 i a h1) (fun σ H h => hd σ H (by rw [List.length_map] at h; exact h)) hs

def AtM (H0 : Hp) (k : Nat) (es : List PyData) (ρ : Pz.Env) : As := fun σ H => ∃ a xs, σ[k]? = some (some (.ref a)) ∧ H a = some (.lst xs) ∧ RpA (L2.del H a) es xs ∧ Same H0 (L2.del H a) ∧ Sat ρ σ (L2.del H a)
theorem AtM.sat {σ : L2.St} {H : Hp} (h : AtM H0 k es ρ σ H) : Sat (ρ.set k (some (.list es))) σ H := by
  obtain ⟨a, xs, h1, h2, h3, h4, h5⟩ := h
  have s := h5.mono same_del
  refine ⟨by rw [List.length_set]; exact s.len, fun j d hj => ?_⟩
  by_cases hjk : j = k
  · subst hjk
    have hl : j < ρ.length := by
      obtain ⟨q, _⟩ := List.getElem?_eq_some_iff.mp hj
      rwa [List.length_set] at q
    rw [List.getElem?_set_self hl] at hj
    cases hj
    exact ⟨.ref a, h1, rp_lst h2 (RpA.mono same_del _ _ h3)⟩
  · rw [List.getElem?_set_ne (Ne.symm hjk)] at hj
    exact s.at_ j d hj
theorem AtM.same {σ : L2.St} {H : Hp} (h : AtM H0 k es ρ σ H) : Same H0 H := by
  obtain ⟨a, xs, h1, h2, h3, h4, h5⟩ := h
  exact h4.trans same_del
theorem AtM.at_ {σ : L2.St} {H : Hp} (h : AtM H0 k es ρ σ H) : At H0 (ρ.set k (some (.list es))) σ H := ⟨h.same, h.sat⟩
theorem atm_stab : Stab (AtM H0 k es ρ) := fun σ H H' ⟨a, xs, h1, h2, h3, h4, h5⟩ e => ⟨a, xs, h1, e _ _ h2, RpA.mono (del_mono e) _ _ h3, h4.trans (del_mono e), h5.mono (del_mono e)⟩
theorem AtM.fgt {σ : L2.St} {H : Hp} (h : AtM H0 k es ρ σ H) (f : Fgt ρ ρ') : AtM H0 k es ρ' σ H := by
  obtain ⟨a, xs, h1, h2, h3, h4, h5⟩ := h
  exact ⟨a, xs, h1, h2, h3, h4, h5.fgt f⟩
theorem AtM.base {H1 : Hp} {σ : L2.St} {H : Hp} (h : AtM H1 k es ρ σ H) (e : Same H0 H1) : AtM H0 k es ρ σ H := by
  obtain ⟨a, xs, h1, h2, h3, h4, h5⟩ := h
  exact ⟨a, xs, h1, h2, h3, e.trans h4, h5⟩
/-- handed back, it is a new list -/
theorem AtM.ret {σ : L2.St} {H : Hp} {v : V} (h : AtM H0 k es ρ σ H) (hv : σ[k]? = some (some v)) : RetL H0 es v H := by
  obtain ⟨a, xs, h1, h2, h3, h4, h5⟩ := h
  rw [hv] at h1
  cases h1
  exact ⟨a, xs, rfl, h4.free del_same, h4.trans same_del, h2, RpA.mono same_del _ _ h3⟩
theorem hs_retM {X : Cx} {Z : Ends} {H0 : Hp} {ρ : Pz.Env} {es : List PyData} {x : Str} {k : Nat} {pos p : Pos} (q : ∀ v H, RetL H0 es v H → Z.rt v H := by exact fun _ _ h => h) (hN : X.N[k]? = some x := by rfl)
    (hv : Vis X.env.scope x := by first | exact Or.inl rfl | exact Or.inr (Or.inl rfl) | exact Or.inr (Or.inr rfl))
    (hd : (x == ("__debug__" : Str)) = false := by decide) (hcd : (x == ("__classdict__" : Str)) = false := by decide) : HS X (.Return (some (.Name x p)) pos) (AtM H0 k es ρ) Z :=
  PS_imp (ps_ret (pe_var hN hv hd hcd)) fun D σ H ⟨h, l⟩ => by
    have h' := h
    obtain ⟨a, xs, h1, h2, h3, h4, h5⟩ := h'
    exact ⟨.ref a, h1, l.2.1 _ _ (q _ _ (h.ret h1))⟩
/-- x = [..], a list that will change -/
theorem hs_newM (hN : X.N.Nodup) (he : DL X e ρ es) (im : immA es = true) (hl : i < ρ.length := by decide) (hi : X.N[i]? = some x := by rfl) (hx : Loc X.env.scope x := by first | exact .inl rfl | exact .inr rfl) (hs : swapsWith e (some (.Name x p)) pos.line X.env = pure false := by rfl)
    (hf : X.fn x = true ∨ X.env.scope.names.lookup x = some .local := by first | exact .inl rfl | exact .inr rfl) : HS X (.Assign [.Name x p] e pos) (At H0 ρ) { Z with nx := AtM H0 i es (ρ.set i none) } := by
  refine PS_imp (ps_set hN hi hx he hs hf) fun D σ H ⟨q, l⟩ => ⟨q.2, fun a xs H' n e1 h r => l.1 _ _ ?_⟩
  have e2 : Same H (L2.del H' a) := fun b o z => by
    have nb : b ≠ a := ne_of_none z n
    rw [del_ne nb]
    exact e1 b o z
  have s2 := q.2.mono e2
  have hd : ∀ j dd, (ρ.set i none)[j]? = some (some dd) → j ≠ i := fun j dd hj z => by
    subst z
    rw [List.getElem?_set_self hl] at hj
    cases hj
  refine ⟨a, xs, List.getElem?_set_self (Nat.lt_of_lt_of_le hl s2.len), h, ?_, q.1.trans e2, by rw [List.length_set, List.length_set]; exact s2.len, fun j dd hj => ?_⟩
  · exact RpA.monoT (fun b ys z => by
      have nb : b ≠ a := fun w => by rw [w, h] at z; cases z
      rw [del_ne nb]
      exact z) es xs im r
  · have nj := hd j dd hj
    obtain ⟨v, h1, h2⟩ := s2.at_ j dd ((fgt_set ρ i).2 j dd hj)
    exact ⟨v, by rw [List.getElem?_set_ne (Ne.symm nj)]; exact h1, h2⟩
/-- x.append(e) -/
theorem hs_append {o : Expr} {p2 : Pos} {y : Str} (he : DE X e (ρ.set k (some (.list es))) d) (im : imm d = true) (hz : es.length ≤ 500) 
    (T : ∀ {te : TE}, PE X e te → PE X (.Call (.Attribute (.Name y p) "append" p2) [e] [] pos) (tBM X.K "list" rAppend (tVar k) (tCons te tNil)))
    {spos : Pos} (hs : swapsWith (.Call (.Attribute (.Name y p) "append" p2) [e] [] pos) none spos.line X.env = pure false := by rfl) :
    HS X (.Expr (.Call (.Attribute (.Name y p) "append" p2) [e] [] pos) spos) (AtM H0 k es ρ) { Z with nx := AtM H0 k (es ++ [d]) ρ } := by
  refine PS_imp (ps_expr (T he) hs) fun D σ H ⟨q, l⟩ => ?_
  have hs := q.sat
  obtain ⟨a, xs, h1, h2, h3, h4, h5⟩ := q
  refine ⟨.ref a, h1, .inl ⟨rfl, _, .inl (.inl h2)⟩, ⟨hs, fun v H' e1 r => ?_⟩⟩
  refine ⟨a, xs, v, rfl, rfl, e1 _ _ h2, small1000 (by rw [h3.length]; omega), l.1 _ _ ?_⟩
  refine ⟨a, xs ++ [v], h1, upd_same, ?_, ?_, ?_⟩
  · rw [del_upd]
    exact RpA.append (RpA.mono (del_mono e1) _ _ h3) (rpa_cons (Rp.del (e1 _ _ h2) im r) rpa_nil)
  · rw [del_upd]; exact h4.trans (del_mono e1)
  · rw [del_upd]; exact h5.mono (del_mono e1)
/-- y = e beside it -/
theorem hs_setM (hN : X.N.Nodup) (he : DE X e (ρ.set k (some (.list es))) d) (im : imm d = true) (hik : i ≠ k := by decide) (hi : X.N[i]? = some x := by rfl) (hx : Loc X.env.scope x := by first | exact .inl rfl | exact .inr rfl) (hs : swapsWith e (some (.Name x p)) pos.line X.env = pure false := by rfl)
    (hf : X.fn x = true ∨ X.env.scope.names.lookup x = some .local := by first | exact .inl rfl | exact .inr rfl) : HS X (.Assign [.Name x p] e pos) (AtM H0 k es ρ) { Z with nx := AtM H0 k es (ρ.set i (some d)) } :=
  hs_setG hN hi hx he (fun _ _ q => q.sat) (fun σ H v H' q e1 r => by
    obtain ⟨a, xs, h1, h2, h3, h4, h5⟩ := q
    exact ⟨a, xs, by rw [List.getElem?_set_ne hik]; exact h1, e1 _ _ h2, RpA.mono (del_mono e1) _ _ h3, h4.trans (del_mono e1), (h5.mono (del_mono e1)).set (Rp.del (e1 _ _ h2) im r)⟩) hs hf
/-- y = [.. for ..] at a local name -/
theorem hs_lcG {elt iter tg : Expr} {ifs : List Expr} {scope : Scope} {pl : Pos} (T : PS X (.Assign [.Name x p] (.ListComp elt [⟨tg, iter, ifs, 0⟩] scope pl) pos) (tAsg (tL ρ ds) (gName i))) (hP : ∀ σ H, P σ H → Sat ρ σ H)
    (q : ∀ σ H a xs H', P σ H → H a = none → Same H H' → H' a = some (.lst xs) → RpA H' ds xs → Z.nx (σ.set i (some (.ref a))) H') : HS X (.Assign [.Name x p] (.ListComp elt [⟨tg, iter, ifs, 0⟩] scope pl) pos) P Z :=
  PS_imp T fun D σ H ⟨h, l⟩ => ⟨hP σ H h, fun a xs H' n e1 g r => l.1 _ _ (q σ H a xs H' h n e1 g r)⟩
theorem hs_lc {elt iter tg : Expr} {ifs : List Expr} {scope : Scope} {pl : Pos} (T : PS X (.Assign [.Name x p] (.ListComp elt [⟨tg, iter, ifs, 0⟩] scope pl) pos) (tAsg (tL ρ ds) (gName i))) :
    HS X (.Assign [.Name x p] (.ListComp elt [⟨tg, iter, ifs, 0⟩] scope pl) pos) (At H0 ρ) { Z with nx := At H0 (ρ.set i (some (.list ds))) } :=
  hs_lcG T (fun _ _ h => h.2) fun σ H a xs H' h n e1 g r => ⟨h.1.trans e1, (h.2.mono e1).set (rp_lst g r)⟩
theorem hs_lcM {elt iter tg : Expr} {ifs : List Expr} {scope : Scope} {pl : Pos} (T : PS X (.Assign [.Name x p] (.ListComp elt [⟨tg, iter, ifs, 0⟩] scope pl) pos) (tAsg (tL (ρ.set k (some (.list es))) ds) (gName i))) (im : immA ds = true) (hik : i ≠ k := by decide) :
    HS X (.Assign [.Name x p] (.ListComp elt [⟨tg, iter, ifs, 0⟩] scope pl) pos) (AtM H0 k es ρ) { Z with nx := AtM H0 k es (ρ.set i (some (.list ds))) } :=
  hs_lcG T (fun _ _ h => h.sat) fun σ H b ys H' h n e1 g r => by
    obtain ⟨a, xs, h1, h2, h3, h4, h5⟩ := h
    have h2' := e1 _ _ h2
    have nb : b ≠ a := fun z => by rw [z, h2] at n; cases n
    refine ⟨a, xs, by rw [List.getElem?_set_ne hik]; exact h1, h2', RpA.mono (del_mono e1) _ _ h3, h4.trans (del_mono e1), (h5.mono (del_mono e1)).set (rp_lst (xs := ys) (by rw [del_ne nb]; exact g) ?_)⟩
    exact RpA.monoT (fun c zs w => by
      rw [del_ne (fun z => by rw [z, h2'] at w; cases w)]
      exact w) ds ys im r
/-- for x in range(..), beside a list that is made -/
theorem hs_forM {iter : Expr} {body : List Stmt} {E : Nat → List PyData} {J : Nat → Pz.Env} {lo : Int} {n : Nat} (hp : PassesOwn (model X.prog X.w) X.A X.env X.xe) (hc : X.calm = true)
    (hit : DR X (.Name x p) iter (ρ.set k (some (.list (E 0)))) lo n) (hg : PG X (.Name x p) (gName i)) (h0 : Fgt ρ (J 0)) (hik : i ≠ k)
    (hb : ∀ j, j < n → HSs X body (AtM H0 k (E j) ((J j).set i (some (.int (lo + (j : Int)))))) { nx := AtM H0 k (E (j + 1)) (J (j + 1)), rt := Z.rt, ct := AtM H0 k (E (j + 1)) (J (j + 1)) })
    (hd : ∀ σ H, AtM H0 k (E n) (J n) σ H → Z.nx σ H) (hs : ∀ x, foldedSetIterable iter X.env x = pure x := by intro _; rfl) : HS X (.For (.Name x p) iter body [] pos) (AtM H0 k (E 0) ρ) Z := by
  refine PS_imp (ps_for (tb := fun D σ H => ∃ j, j < n ∧ tS (AtM H0 k (E j) ((J j).set i (some (.int (lo + (j : Int)))))) { nx := AtM H0 k (E (j + 1)) (J (j + 1)), rt := Z.rt, ct := AtM H0 k (E (j + 1)) (J (j + 1)) } D σ H) hp hc hit hg
    ⟨fun pins s σ H D I q => by obtain ⟨j, hj, q⟩ := q; exact (hb j hj).run pins s σ H D I q⟩ hs) fun D σ H ⟨q, l⟩ => ⟨q.sat, fun H1 e1 => ?_⟩
  refine ⟨fun j m σ' H' => j + m = n ∧ AtM H0 k (E j) (J j) σ' H', ⟨n, by omega, (atm_stab σ H H1 q e1).fgt h0⟩, fun j m σ' H' hw => ?_⟩
  obtain ⟨hjm, h⟩ := hw
  by_cases hj : j < n
  · refine .inr ⟨hj, AtM H0 k (E (j + 1)) (J (j + 1)), fun σ2 H2 q2 => ⟨m - 1, by omega, by omega, q2⟩, fun v H3 hy => ?_⟩
    obtain ⟨rfl, rfl⟩ := hy
    refine ⟨j, hj, ?_, fun _ _ h => h, l.2.1, fun _ _ h => False.elim h, fun _ _ h => h⟩
    obtain ⟨b, xs, h1, h2, h3, h4, h5⟩ := h
    exact ⟨b, xs, by rw [List.getElem?_set_ne hik]; exact h1, h2, h3, h4, h5.set (rp_int _)⟩
  · have en : j = n := by omega
    subst en
    exact .inl ⟨Nat.le_refl _, l.1 _ _ (hd σ' H' h)⟩
end

/-- a def that reads data and gives data, leaving what is tracked -/
def spD (R : List PyData → PyData → Prop) : Sp := fun vs H Q _ => ∃ ds d, R ds d ∧ RpA H ds vs ∧ ∀ v H', Same H H' → Rp H' d v → Q v H'
/-- .. gives a new list -/
def spL (R : List PyData → List PyData → Prop) : Sp := fun vs H Q _ => ∃ ds es, R ds es ∧ RpA H ds vs ∧ ∀ p xs H', H p = none → Same H H' → H' p = some (.lst xs) → RpA H' es xs → Q (.ref p) H'
/-- a def of the text as it stands behind the top -/
structure Has (K : PySem.W.Frag) (mg : Str → Option Value) (x : String) (st : Stmt) (ps : List Str) : Prop where
  ex : ∃ f fd, Fun K x x st f fd ∧ mg x = some (.ref f) ∧ Binds K fd ps []
/-- a def that keeps its promise, by its name -/
structure Cal (P : Program) (w : World) (K : PySem.W.Frag) (mg : Str → Option Value) (base : Heap) (CX : CXT) (k : Nat) (x : Str) (ps : List Str) (sp : Sp) : Prop where
  ex : ∃ f fd, FnOk P w K mg base CX k f fd ps sp ∧ mg x = some (.ref f) ∧ PySem.W.keepIn K (.ref f) = true ∧ Binds K fd ps []
section
variable {X : Cx} {ρ : Pz.Env} {e : Expr} {es : List Expr} {pos p : Pos} {x : Str} {d : PyData} {ds zs : List PyData} {k j : Nat} {ps : List Str} {R : List PyData → PyData → Prop} {RL : List PyData → List PyData → Prop}
theorem de_call (C : Cal X.prog X.w X.K X.mg X.base CX0 k x ps (spD R)) (hr : Room j X.A) (hkj : k ≤ j) (ha : DA X (e :: es) ρ ds) (hR : R ds d) (hg : Gl X x := by rfl) (hdb : (x == ("__debug__" : Str)) = false := by decide)
    (he : starEach (e :: es) X.env = (false, eval e X.env) :: starEach es X.env := by rfl) (hpl : (backTo pos (starEach es X.env)).any (·.1) = false := by rfl) : DE X (.Call (.Name x p) (e :: es) [] pos) ρ d := by
  obtain ⟨f, fd, G, hm, hk, hb⟩ := C.ex
  exact PE_imp (pe_call G (hr.mono hkj) hg hm hk hb .nil pass0 ha hdb he hpl) fun σ H Q ⟨s, q⟩ => ⟨s, fun vs H1 e1 r1 => by
    show spD R (vs ++ []) H1 Q E0
    rw [List.append_nil]
    exact ⟨ds, d, hR, r1, fun v H' e2 r2 => q v H' (e1.trans e2) r2⟩⟩
theorem dl_call (C : Cal X.prog X.w X.K X.mg X.base CX0 k x ps (spL RL)) (hr : Room j X.A) (hkj : k ≤ j) (ha : DA X (e :: es) ρ ds) (hR : RL ds zs) (hg : Gl X x := by rfl) (hdb : (x == ("__debug__" : Str)) = false := by decide)
    (he : starEach (e :: es) X.env = (false, eval e X.env) :: starEach es X.env := by rfl) (hpl : (backTo pos (starEach es X.env)).any (·.1) = false := by rfl) : DL X (.Call (.Name x p) (e :: es) [] pos) ρ zs := by
  obtain ⟨f, fd, G, hm, hk, hb⟩ := C.ex
  exact PE_imp (pe_call G (hr.mono hkj) hg hm hk hb .nil pass0 ha hdb he hpl) fun σ H Q ⟨s, q⟩ => ⟨s, fun vs H1 e1 r1 => by
    show spL RL (vs ++ []) H1 Q E0
    rw [List.append_nil]
    exact ⟨ds, zs, hR, r1, fun p xs H' n e2 h r2 => q p xs H' (back_none e1 n) (e1.trans e2) h r2⟩⟩
end
/-- the slots at a def's entry -/
def st0 (N : List Str) (ds : List PyData) : Pz.Env := ds.map some ++ List.replicate (N.length - ds.length) none
theorem sat_start {H : Hp} {N : List Str} {ds : List PyData} {vs : List V} (r : RpA H ds vs) : Sat (st0 N ds) (L2.start N vs) H := by
  have hl := r.length
  refine ⟨by unfold st0 L2.start; rw [List.length_append, List.length_append, List.length_map, List.length_map, List.length_replicate, List.length_replicate, hl]; exact Nat.le_refl _, fun i d h => ?_⟩
  unfold st0 at h
  have hi : i < ds.length := by
    rcases Nat.lt_or_ge i ds.length with h1 | h1
    · exact h1
    · rw [List.getElem?_append_right (by rw [List.length_map]; exact h1), List.getElem?_replicate] at h
      split at h <;> cases h
  rw [List.getElem?_append_left (by rw [List.length_map]; exact hi), List.getElem?_map, List.getElem?_eq_getElem hi] at h
  have e : ds[i] = d := by simpa using h
  obtain ⟨v, h1, h2⟩ := r.get (i := i) (d := d) (by rw [List.getElem?_eq_getElem hi, e])
  refine ⟨v, ?_, h2⟩
  unfold L2.start
  rw [List.getElem?_append_left (by rw [List.length_map, hl]; exact hi), List.getElem?_map, h1]
  rfl
section
variable {P : Program} {w : World} {K : PySem.W.Frag} {mg : Str → Option Value} {base : Heap} {x : String} {st : Stmt} {N ps : List Str} {k : Nat}
theorem okD {R : List PyData → PyData → Prop} (F : Has K mg x st ps) (S : FnScope N ps (defScope st)) (len : ∀ ds d, R ds d → ds.length = ps.length)
    (body : ∀ (f : Addr) (cdv : Value) (A : Around) (outer : List PySem.Env) (s : Shared) (H : Hp) (E : XK) (ds : List PyData) (d : PyData), Room k (A.deeper (envOfC x (defScope st) s.heap.objs.size f cdv)) → R ds d →
      HSs (cxOf CX0 P w K mg base N x (defScope st) f cdv A outer s H E).nox (defBody st) (At H (st0 N ds)) { nx := fun σ H' => RetD H d .non H', rt := RetD H d }) : Cal P w K mg base CX0 (k + 1) x ps (spD R) := by
  obtain ⟨f, fd, F, hm, hb⟩ := F.ex
  refine ⟨f, fd, F.ok S (fun vs H Q E ⟨ds, d, hR, r, _⟩ => by rw [r.length]; exact len ds d hR) (fun cdv A outer s H vs Q E hr ⟨ds, d, hR, r, q⟩ => ⟨_, body f cdv A outer s H E ds d hr hR, ⟨Same.refl H, sat_start r⟩, ?_⟩), hm, F.kp, hb⟩
  exact ⟨fun σ H' h => q _ _ h.1 h.2, fun v H' h => q _ _ h.1 h.2, fun _ _ h => h.elim, fun _ _ h => h.elim⟩
theorem okL {R : List PyData → List PyData → Prop} (F : Has K mg x st ps) (S : FnScope N ps (defScope st)) (len : ∀ ds d, R ds d → ds.length = ps.length)
    (body : ∀ (f : Addr) (cdv : Value) (A : Around) (outer : List PySem.Env) (s : Shared) (H : Hp) (E : XK) (ds : List PyData) (d : List PyData), Room k (A.deeper (envOfC x (defScope st) s.heap.objs.size f cdv)) → R ds d →
      HSs (cxOf CX0 P w K mg base N x (defScope st) f cdv A outer s H E).nox (defBody st) (At H (st0 N ds)) { nx := fun σ H' => False, rt := RetL H d }) : Cal P w K mg base CX0 (k + 1) x ps (spL R) := by
  obtain ⟨f, fd, F, hm, hb⟩ := F.ex
  refine ⟨f, fd, F.ok S (fun vs H Q E ⟨ds, d, hR, r, _⟩ => by rw [r.length]; exact len ds d hR) (fun cdv A outer s H vs Q E hr ⟨ds, d, hR, r, q⟩ => ⟨_, body f cdv A outer s H E ds d hr hR, ⟨Same.refl H, sat_start r⟩, ?_⟩), hm, F.kp, hb⟩
  exact ⟨fun σ H' h => h.elim, fun v H' ⟨p, xs, h1, h2, h3, h4, h5⟩ => by rw [h1]; exact q p xs H' h2 h3 h4 h5, fun _ _ h => h.elim, fun _ _ h => h.elim⟩
end
end Pz

set_option Elab.async false
set_option linter.all false
set_option maxRecDepth 100000
set_option maxHeartbeats 4000000
namespace SrtT
open PySem PyProof.Rows SrtO PySem.W
/-- v is a tuple of these ints -/
def IsTI (h : Heap) (v : Value) (ns : List Int) : Prop := ∃ a items, v = .ref a ∧ IsTup h a items ∧ IntsAre items.toList ns
theorem IsTI.keeps {h h' : Heap} {v : Value} {ns : List Int} (x : IsTI h v ns) (k : ∀ b o, h.get? b = some o → o.cls = .type "tuple" → h'.get? b = some o) : IsTI h' v ns := by
  obtain ⟨a, items, e, ⟨o, h1, h2, h3⟩, i⟩ := x
  exact ⟨a, items, e, ⟨o, k _ _ h1 h2, h2, h3⟩, i⟩
section
variable {prog : Program} {w : World} {A : Around} {E : Value → Shared → Prop} {s : Shared}
theorem lt_general {v u : Value} {ns ms : List Int} {Q : Bool → Shared → Prop} (hu : A.units < cLine) (hv : IsTI s.heap v ns) (hw : IsTI s.heap u ms) (h : Q (HT.lexLt ns ms) s) : wpAny (model prog w) A (keyLt' general' v u) Q E s := by
  obtain ⟨a, its, rfl, ta, ia⟩ := hv
  obtain ⟨b, jts, rfl, tb, ib⟩ := hw
  show wpAny (model prog w) A (oneLt' false (.ref a) (.ref b)) Q E s
  exact kat_one _ _ (HT.lt_tupInts ta tb ia ib hu h)
theorem call_tup_lt {a b : Addr} {its jts : Array Value} {ns ms : List Int} {Q : Value → Shared → Prop} (ta : IsTup s.heap a its) (tb : IsTup s.heap b jts) (ia : IntsAre its.toList ns) (ib : IntsAre jts.toList ms) (h : Q (.bool (HT.lexLt ns ms)) s) :
    wpAny (model prog w) A (call (.builtin "tuple.__lt__") [.ref a, .ref b]) Q E s := by
  obtain ⟨⟨cls, dd, data, sl⟩, ho, hc, n, hd⟩ := id ta
  obtain ⟨⟨cls2, dd2, data2, sl2⟩, ho2, hc2, n2, hd2⟩ := id tb
  simp only at hc hd hc2 hd2
  subst hc hd hc2 hd2
  exact call_meets PySem.F.slot_tuple_lt ⟨_, ho, rfl⟩ PySem.F.entry_tuple_lt (PySem.F.args_tuple_lt_2 _ _) (HT.tuple_lt_ints a b its jts n n2 dd dd2 sl sl2 ns ms ia ib) ⟨ho, ho2, h⟩
theorem lt_one {v u : Value} {ns ms : List Int} {Q : Bool → Shared → Prop} (hu : A.units < cLine) (hv : IsTI s.heap v ns) (hw : IsTI s.heap u ms) (h : Q (HT.lexLt ns ms) s) : wpAny (model prog w) A (keyLt' oneType' v u) Q E s := by
  obtain ⟨a, its, rfl, ta, ia⟩ := hv
  obtain ⟨b, jts, rfl, tb, ib⟩ := hw
  rw [keyLt'_oneType, oneLt'_eq]
  simp only [if_true]
  obtain ⟨o, h1, h2, h3⟩ := id ta
  refine wpAny_bind (wpAny_cRoomFor hu ?_)
  refine wpAny_bind (wpAny_callSpecialIfBound?_slot (T := "tuple") ⟨o, h1, h2⟩ PySem.F.slot_tuple_lt (call_tup_lt ta tb ia ib ?_))
  exact wpAny_truthy_bool h
theorem lex_loop {b : Bool} {Q : Bool → Shared → Prop} : ∀ {vs us : List Value} {ns ms : List Int} {i : Nat} {fin : Bool}, IntsAre vs ns → IntsAre us ms → (fin = decide (ns.length < ms.length)) → Q (HT.lexLt ns ms) s → KatLex prog w A b fin Q (vs.zip us) i s
  | _, _, _, _, i, fin, .nil, .nil, hf, h => by
    subst hf
    exact kat_nil h
  | _, _, _, _, i, fin, .nil, .cons m u r, hf, h => by
    subst hf
    exact kat_nil (by simpa [HT.lexLt] using h)
  | _, _, _, _, i, fin, .cons n t r, .nil, hf, h => by
    subst hf
    exact kat_nil (by simpa [HT.lexLt] using h)
  | _, _, _, _, i, fin, .cons n t r, .cons m u r', hf, h => by
    rw [List.zip_cons_cons]
    refine kat_cons (SeqAt.EqAt.int_int n t m u prog w _ _ ?_)
    refine kat_go (fun e => ?_) (fun e => ?_)
    · have en : n = m := by simpa using e
      rw [HT.lexLt_cons, if_pos en] at h
      refine kat_yes (lex_loop r r' ?_ h)
      rw [hf]
      simp
    · have en : ¬ n = m := by simpa using e
      rw [HT.lexLt_cons, if_neg en] at h
      refine kat_no ?_
      cases (b && i == 0) with
      | true => exact oneLt_int h
      | false => exact kat_one _ _ (PyProof.Rows.lt_int h)
theorem lt_tuples {v u : Value} {ns ms : List Int} {Q : Bool → Shared → Prop} (hv : IsTI s.heap v ns) (hw : IsTI s.heap u ms) (h : Q (HT.lexLt ns ms) s) : wpAny (model prog w) A (keyLt' (tuples' true) v u) Q E s := by
  obtain ⟨a, its, rfl, ⟨o, h1, h2, n, h3⟩, ia⟩ := hv
  obtain ⟨b, jts, rfl, ⟨o', h1', h2', n', h3'⟩, ib⟩ := hw
  refine kat_lt h1 h3 h1' h3' (lex_loop ia ib ?_ h)
  rw [← ia.length, ← ib.length, Array.length_toList, Array.length_toList]
theorem firsts {k : Value → List Int} : ∀ {vs : List Value} {Q : List (Option Value) → Shared → Prop}, (∀ v ∈ vs, IsTI s.heap v (k v)) →
    (∀ os : List (Option Value), os.length = vs.length → (∀ (i : Nat) v o, vs[i]? = some v → os[i]? = some o → (o = none ∧ k v = []) ∨ ∃ n t, o = some (.int n t) ∧ k v ≠ []) → Q os s) → wpAny (model prog w) A (vs.mapM firstOfTuple') Q E s
  | [], Q, _, h => by
    rw [List.mapM_nil]
    exact wpAny_pure (h [] rfl fun i v o e => by simp at e)
  | v :: vs, Q, hv, h => by
    rw [List.mapM_cons]
    obtain ⟨a, its, e, ⟨o, h1, h2, n, h3⟩, ia⟩ := hv v List.mem_cons_self
    refine wpAny_bind ?_
    rw [e, kas_first_eq]
    refine wpAny_bind (Looks.here (show Looks (model prog w) s.heap (typeOf (.ref a)) o.cls from (Looks.ld h1).andThen .now) ?_)
    rw [h2, if_neg (by first | decide | simp)]
    refine wpAny_bind (listItems_at h1 h3 (wpAny_pure ?_))
    refine wpAny_bind (firsts (k := k) (fun u hu => hv u (List.mem_cons_of_mem _ hu)) fun os ho hos => wpAny_pure (h _ (by rw [List.length_cons, List.length_cons, ho]) fun i u x hi hx => ?_))
    cases i with
    | succ i => exact hos i u x (by simpa using hi) (by simpa using hx)
    | zero =>
      have eu : v = u := by simpa using hi
      subst eu
      obtain ⟨l⟩ := its
      have ia' : IntsAre l (k v) := ia
      have ex : l[0]? = x := by simpa using hx
      generalize k v = kv at ia'
      cases ia' with
      | nil => exact .inl ⟨by simpa using ex.symm, rfl⟩
      | cons m t r => exact .inr ⟨m, t, by simpa using ex.symm, by simp⟩
theorem sortable {a : Addr} {vs : List Value} {k : Value → List Int} (h2 : 2 ≤ vs.length) (hu : A.units < cLine) (hv : ∀ v ∈ vs, IsTI s.heap v (k v)) (ha : ∀ o, s.heap.get? a = some o → o.cls ≠ .type "tuple") : SortableO prog w A s a vs fun v u => HT.lexLt (k v) (k u) := by
  intro h' keep
  have hv' : ∀ v ∈ vs, IsTI h' v (k v) := fun v hm => (hv v hm).keeps fun b o e c => keep b o (fun z => by subst z; exact ha o e c) e
  obtain ⟨v1, rest, rfl⟩ : ∃ v1 rest, vs = v1 :: rest := by
    cases vs with
    | nil => simp at h2
    | cons v1 rest => exact ⟨v1, rest, rfl⟩
  by_cases hall : ∀ v ∈ v1 :: rest, k v ≠ []
  · refine ⟨tuples' true, fun Q E hq => ?_, fun p q hp hq => lt_tuples (hv' p.1 hp) (hv' q.1 hq) ⟨rfl, rfl⟩⟩
    rw [kat_kind_eq, List.mapM_toArray, map_eq_pure_bind]
    refine wpAny_bind (wpAny_bind (firsts (s := { s with heap := h' }) (k := k) hv' fun os ho hos => wpAny_pure ?_))
    have hso : ∀ x ∈ os, ∃ n t, x = some (Value.int n t) := fun x hx => by
      obtain ⟨i, hi, e⟩ := List.getElem_of_mem hx
      have e1 : os[i]? = some x := by rw [List.getElem?_eq_getElem hi, e]
      have hi2 : i < (v1 :: rest).length := by omega
      rcases hos i _ x (List.getElem?_eq_getElem hi2) e1 with ⟨_, z⟩ | ⟨n, t, z, _⟩
      · exact absurd z (hall _ (List.getElem_mem hi2))
      · exact ⟨n, t, z⟩
    have h1 : (os.toArray.all fun x => x.isSome) = true := by
      simp only [List.all_toArray, List.all_eq_true]
      intro x hx
      obtain ⟨n, t, rfl⟩ := hso x hx
      rfl
    rw [if_pos h1]
    refine wpAny_bind (wpAny_rule ?_)
    obtain ⟨o1, or', rfl⟩ : ∃ o1 or', os = o1 :: or' := by
      cases os with
      | nil => simp at ho
      | cons o1 r => exact ⟨o1, r, rfl⟩
    obtain ⟨n1, t1, rfl⟩ := hso o1 List.mem_cons_self
    have hfm : ∀ x ∈ ((some (Value.int n1 t1) :: or').filterMap id), ∃ n t, x = Value.int n t := fun x hx => by
      obtain ⟨y, hy, e⟩ := List.mem_filterMap.mp hx
      obtain ⟨n, t, z⟩ := hso y hy
      rw [z] at e
      exact ⟨n, t, (Option.some.inj e).symm⟩
    have e0 : ((some (Value.int n1 t1) :: or').toArray.filterMap id) = ((some (Value.int n1 t1) :: or').filterMap id).toArray := by simp
    rw [e0, oneTypeOnly'_eq, List.mapM_toArray, map_eq_pure_bind]
    refine wpAny_bind (wpAny_bind (wpAny_bind (kas_mapM (r := Value.type "int") _ (fun v hm Q' hq' => ?_) (wpAny_pure ?_))))
    · obtain ⟨n, t, rfl⟩ := hfm v hm
      exact wpAny_pure hq'
    · have h3 : ((List.map (fun _ => Value.type "int") ((some (Value.int n1 t1) :: or').filterMap id)).toArray.all fun x => x == Value.type "int") = true := by
        simp only [List.all_toArray, List.all_map, List.all_eq_true]
        intro _ _
        rfl
      have h0 : (List.map (fun _ => Value.type "int") ((some (Value.int n1 t1) :: or').filterMap id)).toArray[0]? = some (Value.type "int") := by simp
      rw [h0]
      simp only [h3, if_true]
      refine wpAny_pure (wpAny_pure ?_)
      have e : (Value.type "int" != Value.type "tuple") = true := by first | decide +kernel | rfl | decide
      show Q (tuples' ((some (Value.type "int")).any (· != Value.type "tuple"))) _
      rw [show (some (Value.type "int")).any (· != Value.type "tuple") = true from e]
      exact hq
  · obtain ⟨vz, hz, ez⟩ : ∃ v ∈ v1 :: rest, k v = [] := by
      apply Classical.byContradiction
      intro hn
      exact hall fun v hm e => hn ⟨v, hm, e⟩
    refine ⟨if k v1 = [] then oneType' else general', fun Q E hq => ?_, fun p q hp hq => ?_⟩
    · rw [kat_kind_eq, List.mapM_toArray, map_eq_pure_bind]
      refine wpAny_bind (wpAny_bind (firsts (s := { s with heap := h' }) (k := k) hv' fun os ho hos => wpAny_pure ?_))
      have h1 : (os.toArray.all fun x => x.isSome) = false := by
        obtain ⟨i, hi, e⟩ := List.getElem_of_mem hz
        have hi2 : i < os.length := by omega
        have z : os[i] = none := by
          rcases hos i vz os[i] (by rw [List.getElem?_eq_getElem hi, e]) (List.getElem?_eq_getElem hi2) with ⟨z, _⟩ | ⟨n, t, _, z⟩
          · exact z
          · exact absurd ez z
        rw [List.all_toArray]
        apply Bool.eq_false_iff.mpr
        intro hh
        have q := List.all_eq_true.mp hh os[i] (List.getElem_mem hi2)
        rw [z] at q
        cases q
      rw [if_neg (by rw [h1]; exact Bool.false_ne_true)]
      obtain ⟨o1, or', rfl⟩ : ∃ o1 or', os = o1 :: or' := by
        cases os with
        | nil => simp at ho
        | cons o1 r => exact ⟨o1, r, rfl⟩
      have h0 : (o1 :: or').toArray[0]? = some o1 := by simp
      rw [h0]
      rcases hos 0 v1 o1 rfl rfl with ⟨rfl, z⟩ | ⟨n, t, rfl, z⟩
      · rw [if_neg (by simp)]
        rw [if_pos z] at hq
        rw [oneTypeOnly'_eq, List.mapM_toArray, map_eq_pure_bind]
        refine wpAny_bind (wpAny_bind (wpAny_bind (kas_mapM (r := Value.type "tuple") _ (fun v hm Q' hq' => ?_) (wpAny_pure ?_))))
        · obtain ⟨a2, its, e, ⟨o, g1, g2, g3⟩, ia⟩ := hv' v hm
          rw [e]
          refine Looks.here (show Looks (model prog w) h' (typeOf (.ref a2)) o.cls from (Looks.ld g1).andThen .now) ?_
          rw [g2]
          exact hq'
        · have h3 : ((List.map (fun _ => Value.type "tuple") (v1 :: rest)).toArray.all fun x => x == Value.type "tuple") = true := by
            simp only [List.all_toArray, List.all_map, List.all_eq_true]
            intro _ _
            rfl
          have h0 : (List.map (fun _ => Value.type "tuple") (v1 :: rest)).toArray[0]? = some (Value.type "tuple") := by simp
          rw [h0]
          simp only [h3, if_true]
          exact wpAny_pure (wpAny_pure hq)
      · rw [if_pos (by simp)]
        rw [if_neg z] at hq
        exact wpAny_pure hq
    · by_cases z : k v1 = []
      · rw [if_pos z]
        exact lt_one (s := { s with heap := h' }) hu (hv' p.1 hp) (hv' q.1 hq) ⟨rfl, rfl⟩
      · rw [if_neg z]
        exact lt_general (s := { s with heap := h' }) hu (hv' p.1 hp) (hv' q.1 hq) ⟨rfl, rfl⟩
end
end SrtT

set_option Elab.async false
set_option linter.all false
set_option maxRecDepth 100000
set_option maxHeartbeats 4000000
namespace Pz
open PySem PySem.Spec PyProof.Rows L2

def iL (l : List Nat) : List Int := l.map fun (n : Nat) => (n : Int)
def ltL (a b : List Nat) : Bool := HT.lexLt (iL a) (iL b)
def insL (x : List Nat) : List (List Nat) → List (List Nat)
  | [] => [x]
  | y :: r => if ltL y x = true then y :: insL x r else x :: y :: r
def srtL : List (List Nat) → List (List Nat)
  | [] => []
  | x :: r => insL x (srtL r)
theorem lex_total : ∀ a b : List Int, HT.lexLt a b = false → HT.lexLt b a = false → a = b
  | [], [], _, _ => rfl
  | [], _ :: _, h, _ => by rw [HT.lexLt_nil_cons] at h; cases h
  | _ :: _, [], _, h => by rw [HT.lexLt_nil_cons] at h; cases h
  | x :: a, y :: b, h1, h2 => by
    rw [HT.lexLt_cons] at h1 h2
    by_cases e : x = y
    · rw [if_pos e] at h1
      rw [if_pos e.symm] at h2
      rw [e, lex_total a b h1 h2]
    · rw [if_neg e] at h1
      rw [if_neg (Ne.symm e)] at h2
      have p := of_decide_eq_false h1
      have q := of_decide_eq_false h2
      omega
theorem iL_inj : ∀ {a b : List Nat}, iL a = iL b → a = b
  | [], [], _ => rfl
  | [], _ :: _, h => by cases h
  | _ :: _, [], h => by cases h
  | x :: a, y :: b, h => by
    have h' : (x : Int) :: iL a = (y : Int) :: iL b := h
    obtain ⟨h1, h2⟩ := List.cons.inj h'
    rw [iL_inj h2, show x = y by omega]
theorem ltL_total {a b : List Nat} (h1 : ltL a b = false) (h2 : ltL b a = false) : a = b := iL_inj (lex_total _ _ h1 h2)
theorem ltL_asym {a b : List Nat} (h : ltL a b = true) : ltL b a = false := NtL.lex_asym _ _ h
theorem ltL_tr {a b c : List Nat} (h1 : ltL b a = false) (h2 : ltL c b = false) : ltL c a = false := NtL.lex_tr _ _ _ h1 h2
theorem insL_perm (x : List Nat) : ∀ r : List (List Nat), (insL x r).Perm (x :: r)
  | [] => List.Perm.refl _
  | y :: r => by
    unfold insL
    by_cases h : ltL y x = true
    · rw [if_pos h]
      exact (List.Perm.cons y (insL_perm x r)).trans (List.Perm.swap x y r)
    · rw [if_neg h]
theorem srtL_perm : ∀ r : List (List Nat), (srtL r).Perm r
  | [] => List.Perm.refl _
  | x :: r => (insL_perm x (srtL r)).trans (List.Perm.cons x (srtL_perm r))
abbrev SrtdL (l : List (List Nat)) : Prop := l.Pairwise fun a b => ltL b a = false
theorem insL_srtd (x : List Nat) : ∀ {r : List (List Nat)}, SrtdL r → SrtdL (insL x r)
  | [], _ => List.pairwise_singleton _ _
  | y :: r, h => by
    obtain ⟨h1, h2⟩ := List.pairwise_cons.mp h
    unfold insL
    by_cases c : ltL y x = true
    · rw [if_pos c]
      refine List.pairwise_cons.mpr ⟨fun z hz => ?_, insL_srtd x h2⟩
      rcases List.mem_cons.mp ((insL_perm x r).mem_iff.mp hz) with e | hz
      · rw [e]; exact ltL_asym c
      · exact h1 z hz
    · rw [if_neg c]
      have c' : ltL y x = false := Bool.eq_false_iff.mpr c
      refine List.pairwise_cons.mpr ⟨fun z hz => ?_, h⟩
      rcases List.mem_cons.mp hz with e | hz
      · rw [e]; exact c'
      · exact ltL_tr c' (h1 z hz)
theorem srtL_srtd : ∀ r : List (List Nat), SrtdL (srtL r)
  | [] => List.Pairwise.nil
  | x :: r => insL_srtd x (srtL_srtd r)
theorem srt_unique {a b : List (List Nat)} (ha : SrtdL a) (hb : SrtdL b) (p : a.Perm b) : a = b := List.Perm.eq_of_pairwise (le := fun x y => ltL y x = false) (fun x y _ _ h1 h2 => (ltL_total h2 h1)) ha hb p

def kOf (H : Hp) : Value → List Int
  | .ref a => match H a with
    | some (.tup xs) => xs.filterMap fun x => match x with
      | .int i => some i
      | _ => none
    | _ => []
  | _ => []
theorem kOf_at {H : Hp} {a : Addr} {l : List Nat} (h : H a = some (.tup ((iL l).map V.int))) : kOf H (.ref a) = iL l := by
  show (match H a with | some (.tup xs) => _ | _ => _) = _
  rw [h]
  show ((iL l).map V.int).filterMap _ = _
  rw [List.filterMap_map]
  exact List.filterMap_some
theorem lot_ref {H : Hp} {l : List Nat} {x : V} (h : Rp H (lotD l) x) : ∃ a, x = .ref a ∧ H a = some (.tup ((iL l).map V.int)) := by
  obtain ⟨a, xs, h1, h2, h3⟩ := Rp.isTup h
  rw [nat_map] at h3
  rw [h3.ints] at h2
  exact ⟨a, h1, h2⟩
theorem rp_lot {H : Hp} {l : List Nat} {a : Addr} (h : H a = some (.tup ((iL l).map V.int))) : Rp H (lotD l) (.ref a) := rp_tup h (by
  rw [nat_map]
  exact rpa_ints _)
theorem lots_refs {H : Hp} : ∀ {ls : List (List Nat)} {xs : List V}, RpA H (ls.map lotD) xs → ∃ ts : List Addr, xs = ts.map V.ref ∧ ts.map (fun t => kOf H (.ref t)) = ls.map iL ∧ ∀ t ∈ ts, ∃ l : List Nat, H t = some (.tup ((iL l).map V.int))
  | [], xs, h => ⟨[], h.isNil, rfl, fun _ z => by cases z⟩
  | l :: ls, xs, h => by
    obtain ⟨x, r, rfl, h1, h2⟩ := RpA.isCons (d := lotD l) (ds := ls.map lotD) h
    obtain ⟨a, rfl, h3⟩ := lot_ref h1
    obtain ⟨ts, rfl, h4, h5⟩ := lots_refs h2
    refine ⟨a :: ts, rfl, by rw [List.map_cons, List.map_cons, kOf_at h3, h4], fun t ht => ?_⟩
    rcases List.mem_cons.mp ht with e | ht
    · rw [e]; exact ⟨l, h3⟩
    · exact h5 t ht
theorem refs_lots {H : Hp} : ∀ {ls : List (List Nat)} {ts : List Addr}, ts.map (fun t => kOf H (.ref t)) = ls.map iL → (∀ t ∈ ts, ∃ l : List Nat, H t = some (.tup ((iL l).map V.int))) → RpA H (ls.map lotD) (ts.map V.ref)
  | [], [], _, _ => rpa_nil
  | [], _ :: _, h, _ => by cases h
  | _ :: _, [], h, _ => by cases h
  | l :: ls, t :: ts, h, k => by
    rw [List.map_cons, List.map_cons] at h
    obtain ⟨h1, h2⟩ := List.cons.inj h
    obtain ⟨l', e⟩ := k t List.mem_cons_self
    rw [kOf_at e] at h1
    rw [iL_inj h1] at e
    exact rpa_cons (rp_lot e) (refs_lots h2 fun u hu => k u (List.mem_cons_of_mem _ hu))
theorem back_lots : ∀ {zs : List (List Int)} {ls : List (List Nat)}, (∀ z ∈ zs, z ∈ ls.map iL) → ∃ ms : List (List Nat), zs = ms.map iL
  | [], _, _ => ⟨[], rfl⟩
  | z :: zs, ls, h => by
    obtain ⟨l, _, e⟩ := List.mem_map.mp (h z List.mem_cons_self)
    obtain ⟨ms, e2⟩ := back_lots (zs := zs) (ls := ls) fun y hy => h y (List.mem_cons_of_mem _ hy)
    exact ⟨l :: ms, by rw [List.map_cons, e, e2]⟩
theorem perm_of_map {a b : List (List Nat)} (h : (a.map iL).Perm (b.map iL)) : a.Perm b := by
  have q := h.map (fun z : List Int => z.map Int.toNat)
  rw [List.map_map, List.map_map] at q
  have e : ∀ l : List (List Nat), l.map ((fun z : List Int => z.map Int.toNat) ∘ iL) = l := fun l => by
    have : (fun z : List Int => z.map Int.toNat) ∘ iL = id := by
      funext x
      show (iL x).map Int.toNat = x
      unfold iL
      rw [List.map_map]
      exact (List.map_congr_left fun n _ => by show ((n : Int)).toNat = id n; simp).trans (List.map_id x)
    rw [this, List.map_id]
  rw [e, e] at q
  exact q
def rSortedT (vs : List V) (H : Hp) (Q : VK) : Prop := ∃ ls : List (List Nat), RpA H [.list (ls.map lotD)] vs ∧ ∀ p xs H', H p = none → Same H H' → H' p = some (.lst xs) → RpA H' ((srtL ls).map lotD) xs → Q (.ref p) H'
theorem cr_sortedT {X : Cx} (hu : X.A.units + 64 < cLine) : CallR X (.builtin "sorted") rSortedT := by
  intro pins s σ H vs us Q I r h
  obtain ⟨ls, hl, q⟩ := h
  obtain ⟨x, rfl, h1⟩ := hl.isOne
  obtain ⟨a, xs, rfl, h2, h3⟩ := h1.isLst
  obtain ⟨its, rv, pl, hz⟩ := I.list (SqL.of (K := X.K) h2)
  rw [Vals.ref1 r]
  obtain ⟨ts, rfl, hk, hT⟩ := lots_refs h3
  have ei := nts_of rv
  have hti : ∀ v ∈ its, SrtT.IsTI s.heap v (kOf H v) := fun v hm => by
    rw [ei] at hm
    obtain ⟨t, ht, rfl⟩ := List.mem_map.mp hm
    obtain ⟨l, hl⟩ := hT t ht
    obtain ⟨jts, rj, pj, _⟩ := I.tuple (SqT.of (K := X.K) hl)
    rw [kOf_at hl]
    exact ⟨t, jts.toArray, rfl, pj, by simpa using rj.ints⟩
  refine SrtO.sorted_ord (NtL.swo_lexL (kOf H)) pl.isList (by rw [← rv.length]; exact hz) (fun h2 h₁ a' ha' kk => ?_) fun out h1 h2 => ?_
  · refine SrtT.sortable (s := { s with heap := h₁ }) h2 (by show X.A.units + 1 + 1 < cLine; omega) (fun v hm => (hti v hm).keeps fun b o e _ => (kk b o e).2) fun o e => ?_
    have e' : some o = some (seqObj "list" its.toArray 0) := e.symm.trans ha'
    cases e'
    intro c
    exact absurd (Value.type.inj c) (by decide)
  · obtain ⟨ep, he'⟩ := PyProof.Rows.sortedAll_at s.heap its out.toArray
    have eo : out = (out.map adO).map Value.ref := ref_map fun u hm => by
      have hm' : u ∈ its := h2.perm.mem_iff.mp hm
      rw [ei] at hm'
      obtain ⟨t, _, e⟩ := List.mem_map.mp hm'
      exact ⟨t, e.symm⟩
    have hp : (out.map adO).Perm ts := by
      have p1 := h2.perm.map adO
      rw [ei, ad_map] at p1
      exact p1
    have hs : (out.map adO).Pairwise (fun p q => HT.lexLt (kOf H (.ref q)) (kOf H (.ref p)) = false) := by
      have z := h1
      rw [eo] at z
      exact List.pairwise_map.mp z
    have hkp : ((out.map adO).map (fun t => kOf H (.ref t))).Perm (ls.map iL) := by
      rw [← hk]
      exact hp.map _
    obtain ⟨ms, em⟩ := back_lots (zs := (out.map adO).map (fun t => kOf H (.ref t))) (ls := ls) fun z hz => hkp.mem_iff.mp hz
    have hms : ms = srtL ls := by
      refine srt_unique ?_ (srtL_srtd ls) ?_
      · have z : ((out.map adO).map (fun t => kOf H (.ref t))).Pairwise (fun p q => HT.lexLt q p = false) := List.pairwise_map.mpr hs
        rw [em] at z
        exact List.pairwise_map.mp z
      · refine (perm_of_map ?_).trans (srtL_perm ls).symm
        rw [← em]
        exact hkp
    have hlen : ((out.map adO).map V.ref).length ≤ sizeLine := by
      rw [List.length_map, hp.length_eq]
      rw [List.length_map] at hz
      exact hz
    have rvo : Vals ((out.map adO).map V.ref) out := by
      have z := of_nts (out.map adO)
      rw [← eo] at z
      exact z
    have hn : H (s.heap.objs.size + 1) = none := I.hok.fresh (Nat.le_succ _)
    refine ⟨.ref _, upd H (s.heap.objs.size + 1) (.lst ((out.map adO).map V.ref)), I.laid (t' := s.toks) (fun _ _ => PyProof.Rows.sortedAll_old) (Nat.le_succ _) ⟨hlen, out, ep, rvo, he'⟩, rfl, ?_⟩
    refine q _ _ _ hn (same_new hn) upd_same (RpA.mono (same_new hn) _ _ ?_)
    refine refs_lots (by rw [em, hms]) fun t ht => hT t (hp.mem_iff.mp ht)
theorem rl_sorted {ls : List (List Nat)} : RCL rSortedT [.list (ls.map lotD)] ((srtL ls).map lotD) := fun H vs Q r q => ⟨ls, r, q⟩

def rRepr (A : Around) (vs : List V) (H : Hp) (Q : VK) : Prop := ∃ d, RpA H [d] vs ∧ A.guards = some [] ∧ A.units + 200 < cLine ∧ d.showable = true ∧ d.hasDict = false ∧ d.depth ≤ 100 ∧ d.shown.length ≤ sizeLine ∧ Q (.str d.shown) H
theorem cr_repr {X : Cx} : CallR X (.builtin "repr") (rRepr X.A) := by
  intro pins s σ H vs us Q I r h
  obtain ⟨d, hd, hg, hu, h1, h2, h3, h4, q⟩ := h
  obtain ⟨x, rfl, rx⟩ := hd.isOne
  obtain ⟨u, rfl, ru⟩ := vals1 r
  have deep : ∀ a, u = .ref a → wpAny (model X.prog X.w) X.A (call (.builtin "repr") [u]) (EP X pins σ Q) X.xe s := fun a e => by
    subst e
    obtain ⟨as, rd⟩ := Dp.reads I d x (.ref a) (Rp.dp d x h2 rx) ru
    exact repr_of_reads' rd h1 (PyData.noDict_hsm h2) hg (by omega) (fun _ _ e => e) (fun h' tk t' hk => ⟨.str d.shown, H, I.kept (t' := t') hk, ⟨tk, rfl⟩, q⟩) h4
  cases d with
  | none =>
    rw [rx.isNon] at ru
    cases ru
    exact PySem.P.repr_of_none ⟨.str _, H, I.tok _, ⟨_, rfl⟩, by simpa only [PyData.shown] using q⟩
  | bool b =>
    rw [rx.isBl] at ru
    cases ru
    exact PySem.P.repr_of_bool ⟨.str _, H, I.tok _, ⟨_, rfl⟩, by simpa only [PyData.shown] using q⟩
  | int i =>
    rw [rx.isInt] at ru
    obtain ⟨t, rfl⟩ := ru
    exact PySem.P.repr_of_int (by simpa only [PyData.showable, decide_eq_true_eq] using h1) ⟨.str _, H, I.tok _, ⟨_, rfl⟩, by simpa only [PyData.shown] using q⟩
  | str z =>
    rw [rx.isStr] at ru
    obtain ⟨t, rfl⟩ := ru
    exact PySem.P.repr_of_str ⟨.str _, H, I.tok _, ⟨_, rfl⟩, by simpa only [PyData.shown] using q⟩ (by simpa only [PyData.shown] using h4)
  | list ds =>
    obtain ⟨a, xs, e, _, _⟩ := rx.isLst
    rw [e] at ru
    exact deep a ru
  | tuple ds =>
    obtain ⟨a, xs, e, _, _⟩ := rx.isTup
    rw [e] at ru
    exact deep a ru
  | dict _ => simp only [PyData.hasDict] at h2; cases h2
end Pz

set_option Elab.async false
set_option linter.all false
set_option maxRecDepth 100000
set_option maxHeartbeats 4000000
namespace Pz
open PySem PySem.Spec PyProof.Rows L2
section
variable {X : Cx} {st : Stmt} {rest : List Stmt} {P P' M : As} {Z Z' : Ends} {H0 : Hp} {ρ ρ' : Pz.Env} {e c : Expr} {pos p : Pos} {x : Str} {d : PyData} {ds es : List PyData} {i k : Nat}
theorem hss_fact {φ : Prop} (h : φ → HSs X rest P Z) : HSs X rest (fun σ H => φ ∧ P σ H) Z := ⟨fun pins s σ H D I q => (h q.1.1).run pins s σ H D I ⟨q.1.2, q.2⟩⟩
theorem hs_fact {φ : Prop} (h : φ → HS X st P Z) : HS X st (fun σ H => φ ∧ P σ H) Z := ⟨fun pins s σ H D I q => (h q.1.1).run pins s σ H D I ⟨q.1.2, q.2⟩⟩
/-- if c: .. return -/
theorem hs_guardG {A : List Stmt} {b : Bool} (hc : DT X c ρ b) (hP : ∀ σ H, P σ H → Sat ρ σ H) (hst : Stab P) (h1 : b = true → HSs X A P { Z with nx := fun _ _ => False }) : HS X (.If c A [] pos) P { Z with nx := fun σ H => b = false ∧ P σ H } :=
  hs_ifG hc hP hst (fun e => hss_w (h1 e) ⟨fun _ _ z => z.elim, fun _ _ z => z, fun _ _ z => z, fun _ _ z => z⟩) fun e => hs_nil fun σ H q => ⟨e, q⟩
theorem hs_guard {A : List Stmt} {b : Bool} (hc : DT X c ρ b) (h1 : b = true → HSs X A (At H0 ρ) { Z with nx := fun _ _ => False }) : HS X (.If c A [] pos) (At H0 ρ) { Z with nx := fun σ H => b = false ∧ At H0 ρ σ H } := hs_guardG hc (fun _ _ q => q.2) at_stab h1
theorem hs_guardM {A : List Stmt} {b : Bool} (hc : DT X c (ρ.set k (some (.list es))) b) (h1 : b = true → HSs X A (AtM H0 k es ρ) { Z with nx := fun _ _ => False }) : HS X (.If c A [] pos) (AtM H0 k es ρ) { Z with nx := fun σ H => b = false ∧ AtM H0 k es ρ σ H } := hs_guardG hc (fun _ _ q => q.sat) atm_stab h1
/-- for x in items, with what is known of the turns so far -/
theorem hs_forP {iter : Expr} {body : List Stmt} {J : Nat → Pz.Env} {F : Nat → Prop} {α : Type} {xs : List α} {enc : α → PyData} (hp : PassesOwn (model X.prog X.w) X.A X.env X.xe) (hc : X.calm = true) (hit : DI X (.Name x p) iter ρ (xs.map enc)) (hg : PG X (.Name x p) (gName k)) (h0 : Fgt ρ (J 0)) (f0 : F 0)
    (hb : ∀ H1, Same H0 H1 → ∀ i a, xs[i]? = some a → F i → HSs X body (At H1 ((J i).set k (some (enc a)))) { nx := fun σ H => F (i + 1) ∧ At H1 (J (i + 1)) σ H, rt := Z.rt, ct := fun σ H => F (i + 1) ∧ At H1 (J (i + 1)) σ H })
    (hd : F xs.length → ∀ σ H, At H0 (J xs.length) σ H → Z.nx σ H) (hs : ∀ x, foldedSetIterable iter X.env x = pure x := by intro _; rfl) : HS X (.For (.Name x p) iter body [] pos) (At H0 ρ) Z := by
  refine PS_imp (ps_for (tb := fun D σ H => ∃ H1 i a, Same H0 H1 ∧ xs[i]? = some a ∧ F i ∧ tS (At H1 ((J i).set k (some (enc a)))) { nx := fun σ H => F (i + 1) ∧ At H1 (J (i + 1)) σ H, rt := Z.rt, ct := fun σ H => F (i + 1) ∧ At H1 (J (i + 1)) σ H } D σ H) hp hc hit hg
    ⟨fun pins s σ H D I q => by obtain ⟨H1, i, a, e1, hd, hf, q⟩ := q; exact (hb H1 e1 i a hd hf).run pins s σ H D I q⟩ hs) fun D σ H ⟨q, l⟩ => ⟨q.2, fun J1 H1 e1 sv => ?_⟩
  refine ⟨fun n m σ' H' => n + m = xs.length ∧ F n ∧ At H1 (J n) σ' H', ⟨xs.length, by omega, f0, Same.refl H1, (q.2.mono e1).fgt h0⟩, fun n m σ' H' hw => ?_⟩
  obtain ⟨hnm, hf, ha⟩ := hw
  by_cases hn : n < xs.length
  · have hd : xs[n]? = some xs[n] := List.getElem?_eq_getElem hn
    obtain ⟨go, yl⟩ := (sv H' ha.1).1 n (enc xs[n]) (by rw [List.getElem?_map, hd]; rfl)
    refine .inr ⟨go, fun σ H => F (n + 1) ∧ At H1 (J (n + 1)) σ H, fun σ2 H2 q2 => ⟨m - 1, by omega, by omega, q2⟩, fun v H3 hy => ?_⟩
    obtain ⟨rfl, rv⟩ := yl v H3 hy
    exact ⟨H1, n, xs[n], q.1.trans e1, hd, hf, ⟨ha.1, ha.2.set rv⟩, fun _ _ h => h, l.2.1, fun _ _ h => False.elim h, fun _ _ h => h⟩
  · have en : n = xs.length := by omega
    subst en
    have st := (sv H' ha.1).2
    rw [List.length_map] at st
    exact .inl ⟨st, l.1 _ _ (hd hf σ' H' (ha.base (q.1.trans e1)))⟩
/-- .. beside a list that is made -/
theorem hs_forMP {iter : Expr} {body : List Stmt} {E : Nat → List PyData} {J : Nat → Pz.Env} {F : Nat → Prop} {lo : Int} {n : Nat} (hp : PassesOwn (model X.prog X.w) X.A X.env X.xe) (hc : X.calm = true)
    (hit : DR X (.Name x p) iter (ρ.set k (some (.list (E 0)))) lo n) (hg : PG X (.Name x p) (gName i)) (h0 : Fgt ρ (J 0)) (f0 : F 0) (hik : i ≠ k)
    (hb : ∀ j, j < n → F j → HSs X body (AtM H0 k (E j) ((J j).set i (some (.int (lo + (j : Int)))))) { nx := fun σ H => F (j + 1) ∧ AtM H0 k (E (j + 1)) (J (j + 1)) σ H, rt := Z.rt, ct := fun σ H => F (j + 1) ∧ AtM H0 k (E (j + 1)) (J (j + 1)) σ H })
    (hd : F n → ∀ σ H, AtM H0 k (E n) (J n) σ H → Z.nx σ H) (hs : ∀ x, foldedSetIterable iter X.env x = pure x := by intro _; rfl) : HS X (.For (.Name x p) iter body [] pos) (AtM H0 k (E 0) ρ) Z := by
  refine PS_imp (ps_for (tb := fun D σ H => ∃ j, j < n ∧ F j ∧ tS (AtM H0 k (E j) ((J j).set i (some (.int (lo + (j : Int)))))) { nx := fun σ H => F (j + 1) ∧ AtM H0 k (E (j + 1)) (J (j + 1)) σ H, rt := Z.rt, ct := fun σ H => F (j + 1) ∧ AtM H0 k (E (j + 1)) (J (j + 1)) σ H } D σ H) hp hc hit hg
    ⟨fun pins s σ H D I q => by obtain ⟨j, hj, hf, q⟩ := q; exact (hb j hj hf).run pins s σ H D I q⟩ hs) fun D σ H ⟨q, l⟩ => ⟨q.sat, fun H1 e1 => ?_⟩
  refine ⟨fun j m σ' H' => j + m = n ∧ F j ∧ AtM H0 k (E j) (J j) σ' H', ⟨n, by omega, f0, (atm_stab σ H H1 q e1).fgt h0⟩, fun j m σ' H' hw => ?_⟩
  obtain ⟨hjm, hf, h⟩ := hw
  by_cases hj : j < n
  · refine .inr ⟨hj, fun σ H => F (j + 1) ∧ AtM H0 k (E (j + 1)) (J (j + 1)) σ H, fun σ2 H2 q2 => ⟨m - 1, by omega, by omega, q2⟩, fun v H3 hy => ?_⟩
    obtain ⟨rfl, rfl⟩ := hy
    refine ⟨j, hj, hf, ?_, fun _ _ h => h, l.2.1, fun _ _ h => False.elim h, fun _ _ h => h⟩
    obtain ⟨b, xs, h1, h2, h3, h4, h5⟩ := h
    exact ⟨b, xs, by rw [List.getElem?_set_ne hik]; exact h1, h2, h3, h4, h5.set (rp_int _)⟩
  · have en : j = n := by omega
    subst en
    exact .inl ⟨Nat.le_refl _, l.1 _ _ (hd hf σ' H' h)⟩
/-- .. the items a list that a name holds -/
theorem hs_forML {body : List Stmt} {E : Nat → List PyData} {J : Nat → Pz.Env} {F : Nat → Prop} {α : Type} {xs : List α} {enc : α → PyData} {y : Str} {yp : Pos} {yi : Nat} (hp : PassesOwn (model X.prog X.w) X.A X.env X.xe) (hc : X.calm = true)
    (hy : ρ[yi]? = some (some (.list (xs.map enc)))) (hg : PG X (.Name x p) (gName i)) (h0 : Fgt ρ (J 0)) (f0 : F 0) (hik : i ≠ k)
    (hb : ∀ H1, Same H0 H1 → ∀ j a, xs[j]? = some a → F j → HSs X body (AtM H1 k (E j) ((J j).set i (some (enc a)))) { nx := fun σ H => F (j + 1) ∧ AtM H1 k (E (j + 1)) (J (j + 1)) σ H, rt := Z.rt, ct := fun σ H => F (j + 1) ∧ AtM H1 k (E (j + 1)) (J (j + 1)) σ H })
    (hd : F xs.length → ∀ σ H, AtM H0 k (E xs.length) (J xs.length) σ H → Z.nx σ H) (hN : X.N[yi]? = some y := by rfl) (hv : Vis X.env.scope y := by first | exact Or.inl rfl | exact Or.inr (Or.inl rfl) | exact Or.inr (Or.inr rfl))
    (hd1 : (y == ("__debug__" : Str)) = false := by decide) (hcd : (y == ("__classdict__" : Str)) = false := by decide) (hs : ∀ x, foldedSetIterable (.Name y yp) X.env x = pure x := by intro _; rfl) : HS X (.For (.Name x p) (.Name y yp) body [] pos) (AtM H0 k (E 0) ρ) Z := by
  refine PS_imp (ps_for (tb := fun D σ H => ∃ H1 j a, Same H0 H1 ∧ xs[j]? = some a ∧ F j ∧ tS (AtM H1 k (E j) ((J j).set i (some (enc a)))) { nx := fun σ H => F (j + 1) ∧ AtM H1 k (E (j + 1)) (J (j + 1)) σ H, rt := Z.rt, ct := fun σ H => F (j + 1) ∧ AtM H1 k (E (j + 1)) (J (j + 1)) σ H } D σ H) hp hc
    (pi_list (pe_var hN hv hd1 hcd)) hg ⟨fun pins s σ H D I q => by obtain ⟨H1, j, a, e1, hj, hf, q⟩ := q; exact (hb H1 e1 j a hj hf).run pins s σ H D I q⟩ hs) fun D σ H ⟨q, l⟩ => ?_
  obtain ⟨a, ys, h1, h2, h3, h4, h5⟩ := q
  obtain ⟨v, hv1, hv2⟩ := h5.at_ yi _ hy
  obtain ⟨b, zs, rfl, hb1, hb2⟩ := hv2.isLst
  have sv := serves_list (K := X.K) hb1 hb2
  refine ⟨.ref b, hv1, b, rfl, ⟨zs, SqL.of (same_del _ _ hb1)⟩, ?_⟩
  refine ⟨fun n m σ' H' => n + m = xs.length ∧ F n ∧ AtM (L2.del H a) k (E n) (J n) σ' H', ⟨xs.length, by omega, f0, a, ys, h1, h2, h3, Same.refl _, h5.fgt h0⟩, fun n m σ' H' hw => ?_⟩
  obtain ⟨hnm, hf, ha⟩ := hw
  have e2 := ha.same
  by_cases hn : n < xs.length
  · have hx : xs[n]? = some xs[n] := List.getElem?_eq_getElem hn
    have hx2 : (xs.map enc)[n]? = some (enc xs[n]) := by rw [List.getElem?_map, hx]; rfl
    obtain ⟨go, yl⟩ := (sv H' e2).1 n (enc xs[n]) hx2
    refine .inr ⟨go, fun σ H' => F (n + 1) ∧ AtM (L2.del H a) k (E (n + 1)) (J (n + 1)) σ H', fun σ2 H2 q2 => ⟨m - 1, by omega, by omega, q2⟩, fun v H3 hy3 => ?_⟩
    obtain ⟨rfl, _⟩ := yl v H3 hy3
    obtain ⟨a', ys', g1, g2, g3, g4, g5⟩ := ha
    refine ⟨L2.del H a, n, xs[n], h4, hx, hf, ⟨a', ys', by rw [List.getElem?_set_ne hik]; exact g1, g2, g3, g4, g5.set ?_⟩, fun _ _ h => h, l.2.1, fun _ _ h => False.elim h, fun _ _ h => h⟩
    obtain ⟨_, yl2⟩ := (sv _ g4).1 n (enc xs[n]) hx2
    obtain ⟨w1, hw1, hw2⟩ := hb2.get hx2
    have hz := hy3.2 zs (SqL.of (e2 _ _ hb1))
    rw [hw1] at hz
    cases hz
    exact Rp.mono g4 _ _ hw2
  · have en : n = xs.length := by omega
    subst en
    have st := (sv H' e2).2
    rw [List.length_map] at st
    exact .inl ⟨st, l.1 _ _ (hd hf σ' H' (ha.base h4))⟩
end

section
variable {X : Cx} {ρ : Pz.Env} {elt iter : Expr} {scope : Scope} {pos p p1 p2 : Pos} {x y z : Str} {i j zi : Nat} {α β : Type} {xs : List α} {ys : List β} {enc : α → PyData} {enc1 : β → PyData}
def e1E (ρ : Pz.Env) (i j : Nat) (d : PyData) : Pz.Env := ((ρ.set j none).set i none).set i (some d)
def e2E (ρ : Pz.Env) (i j : Nat) (d f : PyData) : Pz.Env := ((e1E ρ i j d).set j none).set j (some f)
def lc2E (ρ : Pz.Env) (i j : Nat) (enc : α → PyData) (xs : List α) (enc1 : β → PyData) (ys : List β) (g : α → β → PyData) : TE := fun σ H Q => ∃ a b, a ∈ xs ∧ b ∈ ys ∧ tD (e2E ρ i j (enc a) (enc1 b)) (g a b) σ H Q
theorem set2 {γ : Type} (σ : List γ) (i j : Nat) (a b c : γ) (h : i ≠ j) : ((((σ.set j a).set i b).set i c).set j a).set i b = (σ.set j a).set i b := by
  rw [List.set_set, List.set_comm _ _ h, List.set_set, List.set_set]
theorem immA_mem : ∀ {ds : List PyData}, (∀ d ∈ ds, imm d = true) → immA ds = true
  | [], _ => by simp [immA]
  | d :: ds, h => by
    rw [immA, h d List.mem_cons_self, immA_mem fun e he => h e (List.mem_cons_of_mem _ he)] <;> rfl
theorem lc2_imp {K : PySem.W.Frag} {g : α → β → PyData} (hij : i ≠ j) (hz : (e1E ρ i j .none)[zi]? = some (some (.tuple (ys.map enc1)))) (hzi : zi ≠ i) (ia : ∀ a ∈ xs, imm (enc a) = true) (ib : ∀ b ∈ ys, imm (enc1 b) = true) (im : ∀ a ∈ xs, ∀ b ∈ ys, imm (g a b) = true)
    (hl : xs.length * ys.length ≤ 1000) (σ : L2.St) (H : Hp) (Q : VK) (h : tL ρ (xs.flatMap fun a => ys.map (g a)) σ H Q) :
    tLc2 (iD ρ (xs.map enc)) (gName i) tYes (iTup K (tVar zi)) (gName j) tYes (lc2E ρ i j enc xs enc1 ys g) [i, j] [j] σ H Q := by
  obtain ⟨sat, k⟩ := h
  refine ⟨sat, fun J H1 e1 sv D hD => ?_⟩
  have sat1 : Sat ((ρ.set j none).set i none) (wipe σ [i, j]) H1 := (sat.mono e1).wipe [i, j]
  have imY : immA (ys.map enc1) = true := immA_mem fun d hd => by
    obtain ⟨b, hb, rfl⟩ := List.mem_map.mp hd
    exact ib b hb
  have hlen : ∀ n, ((xs.take n).flatMap fun a => ys.map (g a)).length ≤ 1000 := fun n => by
    rw [List.length_flatMap]
    have e : (xs.take n).map (fun a => (ys.map (g a)).length) = (xs.take n).map (fun _ => ys.length) := List.map_congr_left fun a _ => by rw [List.length_map]
    rw [e, List.map_const', List.sum_replicate_nat]
    refine Nat.le_trans (Nat.mul_le_mul_right _ ?_) hl
    rw [List.length_take]
    exact Nat.min_le_right _ _
  refine ⟨fun n m H' => n + m = xs.length ∧ LcAt H1 D ((xs.take n).flatMap fun a => ys.map (g a)) H', ⟨xs.length, by omega, hD, ?_, [], upd_same, rpa_nil⟩, fun n m H' hw => ?_⟩
  · rw [del_upd, del_none hD]; exact Same.refl H1
  obtain ⟨hnm, h1, h2, acc, h3, h4⟩ := hw
  have e2 : Same H1 H' := h2.trans same_del
  by_cases hn : n < xs.length
  · have hd : xs[n]? = some xs[n] := List.getElem?_eq_getElem hn
    have hmem : xs[n] ∈ xs := List.getElem_mem hn
    obtain ⟨go, yl⟩ := (sv H' e2).1 n (enc xs[n]) (by rw [List.getElem?_map, hd]; rfl)
    refine .inr ⟨go, fun H3 => LcAt H1 D ((xs.take (n + 1)).flatMap fun a => ys.map (g a)) H3, fun H3 q => ⟨m - 1, by omega, by omega, q⟩, fun v H3 hy => ?_⟩
    obtain ⟨rfl, rv⟩ := yl v H3 hy
    have satv : Sat (e1E ρ i j (enc xs[n])) ((wipe σ [i, j]).set i (some v)) H3 := (sat1.mono e2).set rv
    have hz' : (e1E ρ i j (enc xs[n]))[zi]? = some (some (.tuple (ys.map enc1))) := by
      unfold e1E at hz ⊢
      rw [List.getElem?_set_ne (Ne.symm hzi)] at hz ⊢
      exact hz
    obtain ⟨tv, ht1, ht2⟩ := satv.at_ zi _ hz'
    obtain ⟨b, zs, rfl, hb1, hb2⟩ := ht2.isTup
    refine ⟨set2 σ i j none none (some v) hij, ?_⟩
    refine ⟨.ref b, ht1, b, rfl, ⟨zs, SqT.of hb1⟩, ?_⟩
    have zl : zs.length = ys.length := by rw [hb2.length, List.length_map]
    have full : ∀ q, ((xs.take n).flatMap (fun a => ys.map (g a)) ++ (ys.take q).map (g xs[n])).length ≤ 1000 := fun q => by
      have z := hlen (n + 1)
      rw [take_more hd, List.flatMap_append, List.length_append] at z
      rw [List.length_append, List.length_map, List.length_take]
      have z2 : ([xs[n]].flatMap fun a => ys.map (g a)).length = ys.length := by simp
      omega
    refine ⟨fun n1 m1 H5 => n1 + m1 = ys.length ∧ SameT H3 H5 ∧ LcAt H1 D ((xs.take n).flatMap (fun a => ys.map (g a)) ++ (ys.take n1).map (g xs[n])) H5, ⟨ys.length, by omega, fun _ _ q => q, h1, h2, acc, h3, by simpa using h4⟩, fun n1 m1 H5 hw1 => ?_⟩
    obtain ⟨hnm1, st, g1, g2, acc1, g3, g4⟩ := hw1
    have hb5 := st _ _ hb1
    by_cases hn1 : n1 < ys.length
    · have hd1 : ys[n1]? = some ys[n1] := List.getElem?_eq_getElem hn1
      have hm1 : ys[n1] ∈ ys := List.getElem_mem hn1
      have hx1 : (ys.map enc1)[n1]? = some (enc1 ys[n1]) := by rw [List.getElem?_map, hd1]; rfl
      obtain ⟨u, hu1, hu2⟩ := hb2.get hx1
      refine .inr ⟨⟨zs, u, SqT.of hb5, hu1⟩, fun H6 => SameT H3 H6 ∧ LcAt H1 D ((xs.take n).flatMap (fun a => ys.map (g a)) ++ (ys.take (n1 + 1)).map (g xs[n])) H6, fun H6 q => ⟨m1 - 1, by omega, by omega, q⟩, fun w H6 hw6 => ?_⟩
      obtain ⟨rfl, hw7⟩ := hw6
      have hwu := hw7 zs (SqT.of hb5)
      rw [hu1] at hwu
      cases hwu
      refine ⟨?_, ?_⟩
      · show ((((wipe σ [i, j]).set i (some v)).set j none).set j (some u)).set j none = ((wipe σ [i, j]).set i (some v)).set j none
        rw [List.set_set, List.set_set]
      · have s1 : Sat ((ρ.set j none).set i none) (wipe σ [i, j]) H6 := sat1.mono (g2.trans same_del)
        have s2 : Sat (e1E ρ i j (enc xs[n])) ((wipe σ [i, j]).set i (some v)) H6 := s1.set (Rp.monoT st _ _ (ia _ hmem) rv)
        have s3 : Sat (e2E ρ i j (enc xs[n]) (enc1 ys[n1])) ((wipe ((wipe σ [i, j]).set i (some v)) [j]).set j (some u)) H6 := (s2.wipe [j]).set (Rp.monoT st _ _ (ib _ hm1) hu2)
        refine ⟨xs[n], ys[n1], hmem, hm1, s3, fun r H7 e7 rr => ⟨acc1, e7 _ _ g3, small1000 ?_, fun c ws q => ?_, ?_⟩⟩
        · rw [g4.length]; exact full n1
        · rw [upd_ne (fun z => by rw [z] at q; have := e7 _ _ (st _ _ q); rw [e7 _ _ g3] at this; cases this)]
          exact e7 _ _ (st _ _ q)
        · rw [take_more hd1, List.map_append, ← List.append_assoc]
          exact lcat_more g1 (g2.trans (del_mono e7)) (e7 _ _ g3) (RpA.mono (del_mono (a := D) e7) _ _ g4) (im _ hmem _ hm1) rr
    · have en : n1 = ys.length := by omega
      subst en
      refine .inl ⟨⟨zs, SqT.of hb5, by omega⟩, g1, g2, acc1, g3, ?_⟩
      rw [List.take_length] at g4
      rw [take_more hd, List.flatMap_append]
      simpa using g4
  · have en : n = xs.length := by omega
    subst en
    have st := (sv H' e2).2
    rw [List.length_map] at st
    refine .inl ⟨st, ?_⟩
    rw [List.take_length] at h4
    exact k D acc H' (back_none e1 h1) (e1.trans e2) h3 (RpA.mono same_del _ _ h4)
theorem dl_lc2 (g : α → β → PyData) (hc : X.calm = true) (hN : X.N.Nodup) (hit : DI X (.Name x p) iter ρ (xs.map enc))
    (he : ∀ (s : Shared) (H : Hp) (C : Addr) (cl : List (Str × Addr)) (fp : List Addr) (a : α) (b : β), a ∈ xs → b ∈ ys → DE (X.blk s H scope (compEnvC scope cl C X.env) fp) elt (e2E ρ i j (enc a) (enc1 b)) (g a b))
    (hz : (e1E ρ i j .none)[zi]? = some (some (.tuple (ys.map enc1)))) (ia : ∀ a ∈ xs, imm (enc a) = true) (ib : ∀ b ∈ ys, imm (enc1 b) = true) (im : ∀ a ∈ xs, ∀ b ∈ ys, imm (g a b) = true) (hl : xs.length * ys.length ≤ 1000)
    (hij : i ≠ j := by decide) (hzi : zi ≠ i := by decide) (hi : X.N[i]? = some x := by rfl) (hlk : (relS scope X.env.scope).names.lookup x = some .local := by rfl) (hj : X.N[j]? = some y := by rfl) (hlk1 : (relS scope X.env.scope).names.lookup y = some .local := by rfl)
    (hzN : X.N[zi]? = some z := by rfl) (hzv : Vis (relS scope X.env.scope) z := by first | exact Or.inl rfl | exact Or.inr (Or.inl rfl) | exact Or.inr (Or.inr rfl)) (ok : blkC X.N X.env.scope scope [(x, i), (y, j)] = true := by kernel_rfl)
    (hd1 : (z == ("__debug__" : Str)) = false := by decide) (hcd : (z == ("__classdict__" : Str)) = false := by decide)
    (hs : ∀ x, foldedSetIterable iter X.env x = pure x := by intro _; rfl) (hs1 : ∀ env x, foldedSetIterable (.Name z p2) env x = pure x := by intro _ _; rfl) :
    DL X (.ListComp elt [⟨.Name x p, iter, [], 0⟩, ⟨.Name y p1, .Name z p2, [], 0⟩] scope pos) ρ (xs.flatMap fun a => ys.map (g a)) :=
  PE_imp (pe_lc2 (X := X) (g := gName i) (g1 := gName j) (vs1 := [j]) (pos := pos) (tt := tYes) (tt1 := tYes) (te := lc2E ρ i j enc xs enc1 ys g) hc hN hit (blkOk_by ok) (fun n hn => by simp at hn; subst hn; simp)
    (fun _ _ _ _ _ => pg_name hN hi (.inl hlk) (.inr hlk)) (fun _ _ _ _ _ => pts_nil) (fun s H C cl fp => pi_tup (pe_var (X := X.blk s H scope (compEnvC scope cl C X.env) fp) hzN hzv hd1 hcd)) (fun _ _ _ _ _ => pg_name hN hj (.inl hlk1) (.inr hlk1)) (fun _ _ _ _ _ => pts_nil)
    (fun s H C cl fp => ⟨fun pins s' σ H' Q I q => by obtain ⟨a, b, ma, mb, q⟩ := q; exact (he s H C cl fp a b ma mb).run pins s' σ H' Q I q⟩) hs hs1) (lc2_imp hij hz hzi ia ib im hl)
end
end Pz

set_option Elab.async false
set_option linter.all false
set_option maxRecDepth 100000
set_option maxHeartbeats 4000000
namespace Pz
open PySem PySem.Spec PyProof.Rows L2
def leL (a b : List Nat) : Bool := Ob.lexAt (fun j => decide ((iL a).getD j 0 = (iL b).getD j 0)) (fun j => decide ((iL a).getD j 0 ≤ (iL b).getD j 0)) (decide ((iL a).length ≤ (iL b).length)) 0 (min (iL a).length (iL b).length)
theorem canLay_nats : ∀ l : List Nat, PyData.canLayAll0 (l.map nat) = true
  | [] => by simp [PyData.canLayAll0]
  | n :: r => by simp [PyData.canLayAll0, PyData.canLay0, canLay_nats r, nat]
theorem depth_nats : ∀ l : List Nat, PyData.depthAll (l.map nat) ≤ 1
  | [] => by simp [PyData.depthAll]
  | n :: r => by
    have := depth_nats r
    simp only [List.map_cons, PyData.depthAll, nat, PyData.depth]
    omega
theorem canLay_lots : ∀ ls : List (List Nat), PyData.canLayAll0 (ls.map lotD) = true
  | [] => by simp [PyData.canLayAll0]
  | n :: r => by simp [PyData.canLayAll0, PyData.canLay0, canLay_lots r, lotD, canLay_nats]
theorem depth_lots : ∀ ls : List (List Nat), PyData.depthAll (ls.map lotD) ≤ 2
  | [] => by simp [PyData.depthAll]
  | n :: r => by
    have := depth_lots r
    have := depth_nats n
    show max (PyData.depth (lotD n)) (PyData.depthAll (r.map lotD)) ≤ 2
    have e : PyData.depth (lotD n) = PyData.depthAll (n.map nat) + 1 := by simp only [lotD, PyData.depth]
    omega
theorem shp_of {d : PyData} (h1 : d.canLay0 = true) (h2 : d.depth ≤ 64) : SeqAt.shaped d = true := by
  unfold SeqAt.shaped
  rw [h1, decide_eq_true h2] <;> rfl
theorem shp_lot (l : List Nat) : SeqAt.shaped (lotD l) = true := shp_of (by simp only [lotD, PyData.canLay0]; exact canLay_nats l) (by have := depth_nats l; simp only [lotD, PyData.depth]; omega)
theorem shp_lots (ls : List (List Nat)) : SeqAt.shaped (.list (ls.map lotD)) = true := shp_of (by simp only [PyData.canLay0]; exact canLay_lots ls) (by have := depth_lots ls; simp only [PyData.depth]; omega)
theorem eqv_nats : ∀ a b : List Nat, PyData.eqvAll (a.map nat) (b.map nat) = decide (a = b)
  | [], [] => by simp [PyData.eqvAll]
  | [], _ :: _ => by simp [PyData.eqvAll]
  | _ :: _, [] => by simp [PyData.eqvAll]
  | x :: a, y :: b => by
    have ih := eqv_nats a b
    have e : PyData.eqvAll ((x :: a).map nat) ((y :: b).map nat) = (((x : Int) == (y : Int)) && PyData.eqvAll (a.map nat) (b.map nat)) := by
      rw [List.map_cons, List.map_cons]
      simp only [PyData.eqvAll]
      rw [show PyData.eqv (nat x) (nat y) = ((x : Int) == (y : Int)) by simp only [nat, PyData.eqv]]
    rw [e, ih, beq_nat]
    by_cases h : x = y <;> simp [h]
theorem eqv_lot (a b : List Nat) : PyData.eqv (lotD a) (lotD b) = decide (a = b) := by
  simp only [lotD, PyData.eqv]
  exact eqv_nats a b
theorem any_eqv (l : List Nat) : ∀ ls : List (List Nat), ((ls.map lotD).any fun z => PyData.eqv z (lotD l)) = decide (l ∈ ls)
  | [] => by simp
  | m :: ls => by
    rw [List.map_cons, List.any_cons, any_eqv l ls, eqv_lot]
    by_cases h : m = l
    · subst h; simp
    · rw [decide_eq_false h, Bool.false_or]
      exact decide_eq_decide.mpr ⟨fun k => List.mem_cons_of_mem _ k, fun k => by
        rcases List.mem_cons.mp k with k | k
        · exact absurd k.symm h
        · exact k⟩
section
variable {K : PySem.W.Frag} {X : Cx} {ρ : Pz.Env} {e : Expr} {pos : Pos}
theorem r2_neLot {a b : List Nat} : R2D (rNeD K) (lotD a) (lotD b) (.bool (!decide (a = b))) := by
  have h := r2_neD (K := K) (shp_lot a) (shp_lot b)
  rw [eqv_lot] at h
  exact h
theorem r2_eqLot {a b : List Nat} : R2D (rEqD K) (lotD a) (lotD b) (.bool (decide (a = b))) := by
  have h := r2_eqD (K := K) (shp_lot a) (shp_lot b)
  rw [eqv_lot] at h
  exact h
theorem r2_niLots {l : List Nat} {ls : List (List Nat)} : R2D (rNotInD K) (lotD l) (.list (ls.map lotD)) (.bool (!decide (l ∈ ls))) := by
  have h := r2_notInD (K := K) (shp_lot l) (shp_lots ls)
  rw [any_eqv] at h
  exact h
theorem r2_leLot {a b : List Nat} : R2D (rLeT K) (lotD a) (lotD b) (.bool (leL a b)) := fun H x y Q rx ry q => by
  obtain ⟨p, rfl, h1⟩ := lot_ref rx
  obtain ⟨p2, rfl, h2⟩ := lot_ref ry
  exact ⟨p, p2, iL a, iL b, rfl, rfl, SqT.of h1, SqT.of h2, q _ H (Same.refl H) (rp_bl _)⟩
theorem de_neg {i : Int} (h : DE X e ρ (.int i)) : DE X (.UnaryOp .USub e pos) ρ (.int (-i)) := PE_imp (pe_un un_neg h) fun σ H Q ⟨s, q⟩ => ⟨s, fun v H' e1 r => ⟨i, r.isInt, q _ H' e1 (rp_int _)⟩⟩
/-- x = e, at the end of a block -/
theorem hs_setZ {Z : Ends} {H0 : Hp} {ρ ρ' : Pz.Env} {p : Pos} {x : Str} {d : PyData} {i : Nat} (hN : X.N.Nodup) (he : DE X e ρ d) (f : Fgt (ρ.set i (some d)) ρ') (q : ∀ σ H, At H0 ρ' σ H → Z.nx σ H) (hi : X.N[i]? = some x := by rfl) (hx : Loc X.env.scope x := by first | exact .inl rfl | exact .inr rfl) (hs : swapsWith e (some (.Name x p)) pos.line X.env = pure false := by rfl)
    (hf : X.fn x = true ∨ X.env.scope.names.lookup x = some .local := by first | exact .inl rfl | exact .inr rfl) : HS X (.Assign [.Name x p] e pos) (At H0 ρ) Z :=
  hs_setG hN hi hx he (fun _ _ p => p.2) (fun σ H v H' p e1 r => q _ _ ⟨p.1.trans e1, ((p.2.mono e1).set r).fgt f⟩) hs hf
/-- x.append(e), at the end of a block -/
theorem hs_appZ {Z : Ends} {H0 : Hp} {ρ : Pz.Env} {d : PyData} {es : List PyData} {k : Nat} {p p2 : Pos} {y : Str} (he : DE X e (ρ.set k (some (.list es))) d) (im : imm d = true) (hz : es.length ≤ 500) (q : ∀ σ H, AtM H0 k (es ++ [d]) ρ σ H → Z.nx σ H)
    (T : ∀ {te : TE}, PE X e te → PE X (.Call (.Attribute (.Name y p) "append" p2) [e] [] pos) (tBM X.K "list" rAppend (tVar k) (tCons te tNil)))
    {spos : Pos} (hs : swapsWith (.Call (.Attribute (.Name y p) "append" p2) [e] [] pos) none spos.line X.env = pure false := by rfl) :
    HS X (.Expr (.Call (.Attribute (.Name y p) "append" p2) [e] [] pos) spos) (AtM H0 k es ρ) Z :=
  hs_w (Z' := { Z with nx := AtM H0 k (es ++ [d]) ρ }) (hs_append (o := e) he im hz T hs) ⟨q, fun _ _ h => h, fun _ _ h => h, fun _ _ h => h⟩
end
end Pz

set_option Elab.async false
set_option linter.all false
set_option maxRecDepth 100000
set_option maxHeartbeats 4000000
namespace Kp
open PySem PySem.Spec PyProof.Rows L2 Pz
def top (i : Nat) : Stmt := PySem.Challenge.pw_closereckoned_k03_whole_partings_and_ato.main.body.getD i (.Pass ⟨0, 0, 0, 0⟩)
/-- the built-in names that the text uses are no names of its own -/
structure Bi (mg : Str → Option Value) : Prop where
  all : mg "all" = none
  any : mg "any" = none
  isi : mg "isinstance" = none
  int : mg "int" = none
  bool : mg "bool" = none
  tuple : mg "tuple" = none
  len : mg "len" = none
  range : mg "range" = none
  sorted : mg "sorted" = none
  sum : mg "sum" = none
  list : mg "list" = none
  repr : mg "repr" = none
def within (one other : List Nat) : Bool := one.all fun h => decide (h ∈ other)
def feared (fears : List (List Nat)) (lot : List Nat) : Bool := fears.any fun f => within lot f
def others (n : Nat) (lot : List Nat) : List Nat := (List.range n).filter fun h => !decide (h ∈ lot)
def allLots : Nat → List (List Nat)
  | 0 => [[]]
  | n + 1 => allLots n ++ (allLots n).map (· ++ [n])
def intFits : PyData → Bool
  | .int _ => true
  | _ => false
def numFits : PyData → Bool
  | .int i => decide (0 ≤ i)
  | _ => false
def manyFits : PyData → Bool
  | .int i => decide (1 ≤ i)
  | _ => false
def houseFits (m : Int) : PyData → Bool
  | .int i => decide (0 ≤ i) && decide (i < m)
  | _ => false
def goF (n : Nat) : Int → List Nat → Bool
  | _, [] => true
  | last, h :: r => if (!decide (h < n) || decide ((h : Int) ≤ last)) = true then false else goF n h r
def lotFits (n : Nat) (l : List Nat) : Bool := goF n (-1) l
def ascB (ls : List (List Nat)) : Bool := (List.range (ls.length - 1)).all fun i => !leL (ls.getD (1 + i) []) (ls.getD i [])
def apartB (ls : List (List Nat)) : Bool := !(ls.flatMap fun a => ls.map fun b => !decide (a = b) && within a b).any id
def fearsFit (n : Nat) (ls : List (List Nat)) : Bool := if (!ls.all (lotFits n) || decide (ls.length = 0)) = true then false else ascB ls && apartB ls

section
variable {P : Program} {w : World} {K : PySem.W.Frag} {mg : Str → Option Value} {base : Heap}
abbrev sInt : Stmt := top 6
abbrev sNum : Stmt := top 7
abbrev sMany : Stmt := top 8
abbrev sHouse : Stmt := top 9
abbrev sLot : Stmt := top 10
abbrev sIsLots : Stmt := top 11
abbrev sFearsFit : Stmt := top 12
abbrev sWithin : Stmt := top 13
abbrev sOthers : Stmt := top 14
abbrev sLotsIn : Stmt := top 15
abbrev sFeared : Stmt := top 16
theorem scInt : FnScope ["thing"] ["thing"] (defScope sInt) := ⟨rfl, rfl, rfl, by decide +kernel, rfl, by decide +kernel, by decide +kernel⟩
theorem scNum : FnScope ["thing"] ["thing"] (defScope sNum) := ⟨rfl, rfl, rfl, by decide +kernel, rfl, by decide +kernel, by decide +kernel⟩
theorem scMany : FnScope ["thing"] ["thing"] (defScope sMany) := ⟨rfl, rfl, rfl, by decide +kernel, rfl, by decide +kernel, by decide +kernel⟩
theorem scHouse : FnScope ["many", "thing"] ["many", "thing"] (defScope sHouse) := ⟨rfl, rfl, rfl, by decide +kernel, rfl, by decide +kernel, by decide +kernel⟩
def isiI : PyData → Bool
  | .int _ => true
  | .bool _ => true
  | _ => false
def isiB : PyData → Bool
  | .bool _ => true
  | _ => false
def isiT : PyData → Bool
  | .tuple _ => true
  | _ => false
theorem kitI : ∀ d, kitB (tyD d) "int" = some (isiI d)
  | .none => (by decide +kernel : kitB "NoneType" "int" = some false)
  | .bool _ => (by decide +kernel : kitB "bool" "int" = some true)
  | .int _ => (by decide +kernel : kitB "int" "int" = some true)
  | .str _ => (by decide +kernel : kitB "str" "int" = some false)
  | .list _ => (by decide +kernel : kitB "list" "int" = some false)
  | .tuple _ => (by decide +kernel : kitB "tuple" "int" = some false)
  | .dict _ => (by decide +kernel : kitB "dict" "int" = some false)
theorem kitBo : ∀ d, kitB (tyD d) "bool" = some (isiB d)
  | .none => (by decide +kernel : kitB "NoneType" "bool" = some false)
  | .bool _ => (by decide +kernel : kitB "bool" "bool" = some true)
  | .int _ => (by decide +kernel : kitB "int" "bool" = some false)
  | .str _ => (by decide +kernel : kitB "str" "bool" = some false)
  | .list _ => (by decide +kernel : kitB "list" "bool" = some false)
  | .tuple _ => (by decide +kernel : kitB "tuple" "bool" = some false)
  | .dict _ => (by decide +kernel : kitB "dict" "bool" = some false)
theorem kitT : ∀ d, kitB (tyD d) "tuple" = some (isiT d)
  | .none => (by decide +kernel : kitB "NoneType" "tuple" = some false)
  | .bool _ => (by decide +kernel : kitB "bool" "tuple" = some false)
  | .int _ => (by decide +kernel : kitB "int" "tuple" = some false)
  | .str _ => (by decide +kernel : kitB "str" "tuple" = some false)
  | .list _ => (by decide +kernel : kitB "list" "tuple" = some false)
  | .tuple _ => (by decide +kernel : kitB "tuple" "tuple" = some true)
  | .dict _ => (by decide +kernel : kitB "dict" "tuple" = some false)
def rInt (ds : List PyData) (d : PyData) : Prop := ∃ x, noD x = true ∧ ds = [x] ∧ d = .bool (intFits x)
def rNum (ds : List PyData) (d : PyData) : Prop := ∃ x, noD x = true ∧ ds = [x] ∧ d = .bool (numFits x)
def rMany (ds : List PyData) (d : PyData) : Prop := ∃ x, noD x = true ∧ ds = [x] ∧ d = .bool (manyFits x)
def rHouse (ds : List PyData) (d : PyData) : Prop := ∃ (m : Int) (x : PyData), noD x = true ∧ ds = [.int m, x] ∧ d = .bool (houseFits m x)
theorem int_eq (x : PyData) : (isiI x && !isiB x) = intFits x := by cases x <;> rfl
theorem ok_int (B : Bi mg) (F : Has K mg "integer_fits" sInt ["thing"]) : Cal P w K mg base CX0 1 "integer_fits" ["thing"] (spD rInt) := by
  refine okD F scInt (fun ds d ⟨_, _, h, _⟩ => by rw [h]; rfl) fun f cdv A outer s H E ds d hr hR => ?_
  obtain ⟨x, hx, rfl, rfl⟩ := hR
  refine hs_one (hs_ret (de_of (de_and (de_isi B.isi B.int (by decide +kernel) hx (dv 0) (kitI x)) fun _ => de_one (de_not (de_isi B.isi B.bool (by decide +kernel) hx (dv 0) (kitBo x)))) ?_))
  rw [int_eq]
theorem num_and {x : PyData} : (intFits x && numFits x) = numFits x := by cases x <;> simp [intFits, numFits]
theorem many_and {x : PyData} : (intFits x && manyFits x) = manyFits x := by cases x <;> simp [intFits, manyFits]
theorem house_and {m : Int} {x : PyData} : (numFits x && houseFits m x) = houseFits m x := by cases x <;> simp [numFits, houseFits]
theorem ok_num (B : Bi mg) (F : Has K mg "number_fits" sNum ["thing"]) (C : Cal P w K mg base CX0 1 "integer_fits" ["thing"] (spD rInt)) : Cal P w K mg base CX0 2 "number_fits" ["thing"] (spD rNum) := by
  refine okD F scNum (fun ds d ⟨_, _, h, _⟩ => by rw [h]; rfl) fun f cdv A outer s H E ds d hr hR => ?_
  obtain ⟨x, hx, rfl, rfl⟩ := hR
  refine hs_one (hs_ret (de_of (d' := .bool (intFits x && numFits x)) (de_and (de_call C hr (by decide) (da_one (dv 0)) ⟨x, hx, rfl, rfl⟩) fun h => de_one ?_) (by rw [num_and])))
  cases x with
  | int i => exact de_cmp op_ge (dv 0) de_int r2_B0
  | _ => cases h
theorem ok_many (B : Bi mg) (F : Has K mg "many_fits" sMany ["thing"]) (C : Cal P w K mg base CX0 1 "integer_fits" ["thing"] (spD rInt)) : Cal P w K mg base CX0 2 "many_fits" ["thing"] (spD rMany) := by
  refine okD F scMany (fun ds d ⟨_, _, h, _⟩ => by rw [h]; rfl) fun f cdv A outer s H E ds d hr hR => ?_
  obtain ⟨x, hx, rfl, rfl⟩ := hR
  refine hs_one (hs_ret (de_of (d' := .bool (intFits x && manyFits x)) (de_and (de_call C hr (by decide) (da_one (dv 0)) ⟨x, hx, rfl, rfl⟩) fun h => de_one ?_) (by rw [many_and])))
  cases x with
  | int i => exact de_cmp op_ge (dv 0) de_int r2_B0
  | _ => cases h
theorem ok_house (B : Bi mg) (F : Has K mg "house_fits" sHouse ["many", "thing"]) (C : Cal P w K mg base CX0 2 "number_fits" ["thing"] (spD rNum)) : Cal P w K mg base CX0 3 "house_fits" ["many", "thing"] (spD rHouse) := by
  refine okD F scHouse (fun ds d ⟨_, _, _, h, _⟩ => by rw [h]; rfl) fun f cdv A outer s H E ds d hr hR => ?_
  obtain ⟨m, x, hx, rfl, rfl⟩ := hR
  cases x with
  | int i => exact hs_one (hs_ret (de_and (de_call C hr (by decide) (da_one (dv 1)) ⟨_, hx, rfl, rfl⟩) fun h => de_one (de_cmp op_lt (dv 1) (dv 0) r2_B0)))
  | _ => exact hs_one (hs_ret (de_and (k := false) (m := false) (de_call C hr (by decide) (da_one (dv 1)) ⟨_, hx, rfl, rfl⟩) fun h => by cases h))

theorem scWithin : FnScope ["one", "other", "house"] ["one", "other"] (defScope sWithin) := ⟨rfl, rfl, rfl, by decide +kernel, rfl, by decide +kernel, by decide +kernel⟩
theorem scOthers : FnScope ["many", "lot", "house"] ["many", "lot"] (defScope sOthers) := ⟨rfl, rfl, rfl, by decide +kernel, rfl, by decide +kernel, by decide +kernel⟩
theorem scFeared : FnScope ["fears", "lot", "fear"] ["fears", "lot"] (defScope sFeared) := ⟨rfl, rfl, rfl, by decide +kernel, rfl, by decide +kernel, by decide +kernel⟩
def rWithin (ds : List PyData) (d : PyData) : Prop := ∃ one other : List Nat, one.length ≤ 100 ∧ ds = [lotD one, lotD other] ∧ d = .bool (within one other)
def rOthers (ds : List PyData) (d : PyData) : Prop := ∃ (n : Nat) (lot : List Nat), n ≤ 100 ∧ ds = [nat n, lotD lot] ∧ d = lotD (others n lot)
def rFeared (ds : List PyData) (d : PyData) : Prop := ∃ (fears : List (List Nat)) (lot : List Nat), fears.length ≤ 100 ∧ lot.length ≤ 100 ∧ ds = [lotsD fears, lotD lot] ∧ d = .bool (feared fears lot)
theorem rc_allM {α : Type} {xs : List α} {f : α → Bool} : RCD (rAll K) [.list (xs.map fun a => .bool (f a))] (.bool (xs.all f)) := by
  have h := rc_all (K := K) (bs := xs.map f)
  rw [List.map_map, List.all_map] at h
  exact h
theorem rc_anyM {α : Type} {xs : List α} {f : α → Bool} : RCD (rAny K) [.list (xs.map fun a => .bool (f a))] (.bool (xs.any f)) := by
  have h := rc_any (K := K) (bs := xs.map f)
  rw [List.map_map, List.any_map] at h
  exact h
theorem ok_within (B : Bi mg) (F : Has K mg "lot_within" sWithin ["one", "other"]) : Cal P w K mg base CX0 1 "lot_within" ["one", "other"] (spD rWithin) := by
  refine okD F scWithin (fun ds d ⟨_, _, _, h, _⟩ => by rw [h]; rfl) fun f cdv A outer s H E ds d hr hR => ?_
  obtain ⟨one, other, hl, rfl, rfl⟩ := hR
  exact hs_one (hs_ret (de_callB (cr_all rfl) B.all (by decide +kernel) (da_one (de_dl (dl_map (xs := one) (enc := nat) (i := 2) (fun h => .bool (decide (h ∈ other))) rfl scWithin.nd (di_tup (dv 0))
    (fun _ _ _ _ _ h _ => de_cmp op_in_seq (dv 2) (dv 1) r2_inLot) (fun _ _ => imm_bool _) (by omega)))) rc_allM))
theorem ok_others (B : Bi mg) (F : Has K mg "others_in" sOthers ["many", "lot"]) : Cal P w K mg base CX0 1 "others_in" ["many", "lot"] (spD rOthers) := by
  refine okD F scOthers (fun ds d ⟨_, _, _, h, _⟩ => by rw [h]; rfl) fun f cdv A outer s H E ds d hr hR => ?_
  obtain ⟨n, lot, hl, rfl, rfl⟩ := hR
  exact hs_one (hs_ret (de_callTy call_tuple_of B.tuple (by decide +kernel) (da_one (de_dl (dl_lc (xs := List.range n) (enc := nat) (i := 2) (fun h => !decide (h ∈ lot)) nat rfl scOthers.nd (di_r1 B.range (dv 0) (by omega))
    (fun _ _ _ _ _ h _ => dts_one (dt_cmp op_notIn_seq (dv 2) (dv 1) r2_niLot)) (fun _ _ _ _ _ h _ _ => dv 2) (fun _ _ _ => imm_nat _) (by simp; omega)))) rc_tup))
theorem ok_feared (B : Bi mg) (F : Has K mg "feared_in" sFeared ["fears", "lot"]) (C : Cal P w K mg base CX0 1 "lot_within" ["one", "other"] (spD rWithin)) : Cal P w K mg base CX0 2 "feared_in" ["fears", "lot"] (spD rFeared) := by
  refine okD F scFeared (fun ds d ⟨_, _, _, _, h, _⟩ => by rw [h]; rfl) fun f cdv A outer s H E ds d hr hR => ?_
  obtain ⟨fears, lot, hl, hl2, rfl, rfl⟩ := hR
  exact hs_one (hs_ret (de_callB (cr_any rfl) B.any (by decide +kernel) (da_one (de_dl (dl_map (xs := fears) (enc := lotD) (i := 2) (fun h => .bool (within lot h)) rfl scFeared.nd (di_tup (dv 0))
    (fun _ _ _ _ _ h _ => de_call C hr (by decide) (da_cons (dv 1) (da_one (dv 2))) ⟨lot, h, hl2, rfl, rfl⟩) (fun _ _ => imm_bool _) (by omega)))) rc_anyM))
end
end Kp

set_option Elab.async false
set_option linter.all false
set_option maxRecDepth 100000
set_option maxHeartbeats 4000000
namespace Kp
open PySem PySem.Spec PyProof.Rows L2 Pz
section
variable {P : Program} {w : World} {K : PySem.W.Frag} {mg : Str → Option Value} {base : Heap}
theorem scLot : FnScope ["many", "thing", "last", "house"] ["many", "thing"] (defScope sLot) := ⟨rfl, rfl, rfl, by decide +kernel, rfl, by decide +kernel, by decide +kernel⟩
theorem scIsLots : FnScope ["many", "thing", "lot"] ["many", "thing"] (defScope sIsLots) := ⟨rfl, rfl, rfl, by decide +kernel, rfl, by decide +kernel, by decide +kernel⟩
theorem scFearsFit : FnScope ["many", "thing", "at", "one", "other"] ["many", "thing"] (defScope sFearsFit) := ⟨rfl, rfl, rfl, by decide +kernel, rfl, by decide +kernel, by decide +kernel⟩
theorem scLotsIn : FnScope ["many", "rows", "house", "lot"] ["many"] (defScope sLotsIn) := ⟨rfl, rfl, rfl, by decide +kernel, rfl, by decide +kernel, by decide +kernel⟩
def rLot (ds : List PyData) (d : PyData) : Prop := (∃ (n : Nat) (l : List Nat), ds = [nat n, lotD l] ∧ d = .bool (lotFits n l)) ∨ ∃ (n : Nat) (es : List PyData), ds = [nat n, .list es] ∧ d = .bool false
def rIsLots (ds : List PyData) (d : PyData) : Prop := ∃ (n : Nat) (ls : List (List Nat)), ls.length ≤ 100 ∧ ds = [nat n, lotsD ls] ∧ d = .bool (ls.all (lotFits n))
def rFearsFit (ds : List PyData) (d : PyData) : Prop := ∃ (n : Nat) (ls : List (List Nat)), ls.length ≤ 30 ∧ (∀ l ∈ ls, l.length ≤ 100) ∧ ds = [nat n, lotsD ls] ∧ d = .bool (fearsFit n ls)
def rLotsIn (ds : List PyData) (es : List PyData) : Prop := ∃ n : Nat, n ≤ 6 ∧ ds = [nat n] ∧ es = (srtL (allLots n)).map lotD
def lastOf (l : List Nat) : Nat → Int
  | 0 => -1
  | i + 1 => ((l.getD i 0 : Nat) : Int)
theorem goF_step {n : Nat} {l : List Nat} {i a : Nat} (h : l[i]? = some a) : goF n (lastOf l i) (l.drop i) = if (!decide (a < n) || decide ((a : Int) ≤ lastOf l i)) = true then false else goF n (lastOf l (i + 1)) (l.drop (i + 1)) := by
  obtain ⟨hi, e⟩ := List.getElem?_eq_some_iff.mp h
  rw [List.drop_eq_getElem_cons hi, e]
  show (if _ then _ else _) = _
  have q : lastOf l (i + 1) = (a : Int) := by
    show ((l.getD i 0 : Nat) : Int) = a
    rw [List.getD_eq_getElem?_getD, h]
    rfl
  rw [q]
theorem houseNat (n a : Nat) : houseFits (n : Int) (nat a) = decide (a < n) := by
  show (decide ((0 : Int) ≤ (a : Int)) && decide ((a : Int) < (n : Int))) = decide (a < n)
  rw [decide_eq_true (show (0 : Int) ≤ (a : Int) by omega), Bool.true_and]
  exact decide_eq_decide.mpr (by omega)
theorem ok_lot (B : Bi mg) (F : Has K mg "lot_fits" sLot ["many", "thing"]) (C : Cal P w K mg base CX0 3 "house_fits" ["many", "thing"] (spD rHouse)) : Cal P w K mg base CX0 4 "lot_fits" ["many", "thing"] (spD rLot) := by
  refine okD F scLot (fun ds d h => by rcases h with ⟨_, _, h, _⟩ | ⟨_, _, h, _⟩ <;> rw [h] <;> rfl) fun f cdv A outer s H E ds d hr hR => ?_
  rcases hR with ⟨n, l, rfl, rfl⟩ | ⟨n, es, rfl, rfl⟩
  · refine hs_seq (hs_guard (dt_not (dt_val (de_isi B.isi B.tuple (by decide +kernel) rfl (dv 1) (kitT _)))) (fun h => by cases h)) (hss_fact fun _ => ?_)
    refine hs_seq (hs_set (i := 2) scLot.nd (de_neg de_int)) ?_
    refine hs_seq (M := fun σ H' => lotFits n l = true ∧ At H [some (nat n), some (lotD l), none, none] σ H') ?_ (hss_fact fun hok => hs_one (hs_ret (de_of (d := .bool (lotFits n l)) (d' := .bool true) de_bl (by rw [hok]))))
    refine hs_forP (k := 3) (F := fun i => lotFits n l = goF n (lastOf l i) (l.drop i)) (J := fun i => [some (nat n), some (lotD l), some (.int (lastOf l i)), none]) (xs := l) (enc := nat) PassesOwn.never rfl (di_tup (dv 1)) (pg_name (i := 3) scLot.nd rfl (.inl rfl)) (fgt_of (by simp [fgtB, st0, lastOf])) rfl (fun H1 e1 i a hi hf => ?_) (fun hf σ H' ha => ⟨?_, ha.fgt (fgt_of (by simp [fgtB]))⟩)
    · rw [goF_step hi] at hf
      refine hs_seq (hs_guard (dt_w (dw_or (dt_not (dt_val (de_call C hr (by decide) (da_cons (dv 0) (da_one (dv 3))) ⟨n, nat a, rfl, rfl, rfl⟩))) fun _ => dw_or1 (dt_cmp op_le (dv 3) (dv 2) r2_B0))) (fun h => hs_one (hs_ret de_bl (fun v H' q => ?_)))) (hss_fact fun hc => ?_)
      · rw [houseNat] at h
        rw [if_pos h] at hf
        rw [hf]
        exact RetD.base e1 v H' q
      · rw [houseNat] at hc
        rw [if_neg (by rw [hc]; exact Bool.false_ne_true)] at hf
        refine hs_one (hs_setG (i := 2) scLot.nd rfl (.inl rfl) (dv 3) (fun _ _ q => q.2) fun σ H2 v H' q e2 r => ⟨hf, ⟨q.1.trans e2, ((q.2.mono e2).set r).fgt ?_⟩⟩)
        have hl : lastOf l (i + 1) = (a : Int) := by
          show ((l.getD i 0 : Nat) : Int) = a
          rw [List.getD_eq_getElem?_getD, hi]
          rfl
        rw [hl]
        exact fgt_of (by simp [fgtB, nat])
    · rw [List.drop_length] at hf
      exact hf
  · exact hs_seq (M := fun _ _ => False) (hs_ifG (dt_not (dt_val (de_isi B.isi B.tuple (by decide +kernel) rfl (dv 1) (kitT _)))) (fun _ _ q => q.2) at_stab (fun _ => hs_one (hs_ret de_bl)) (fun h => by cases h)) (hss_pre (P := fun _ _ => False) ⟨fun pins s σ H D I q => q.1.elim⟩ fun _ _ q => q)
theorem ok_is_lots (B : Bi mg) (F : Has K mg "is_lots" sIsLots ["many", "thing"]) (C : Cal P w K mg base CX0 4 "lot_fits" ["many", "thing"] (spD rLot)) : Cal P w K mg base CX0 5 "is_lots" ["many", "thing"] (spD rIsLots) := by
  refine okD F scIsLots (fun ds d ⟨_, _, _, h, _⟩ => by rw [h]; rfl) fun f cdv A outer s H E ds d hr hR => ?_
  obtain ⟨n, ls, hl, rfl, rfl⟩ := hR
  exact hs_one (hs_ret (de_and (k := true) (m := ls.all (lotFits n)) (de_isi (T := "tuple") B.isi B.tuple (by decide +kernel) rfl (dv 1) (kitT _)) fun _ => de_one (de_callB (cr_all rfl) B.all (by decide +kernel) (da_one (de_dl (dl_map (xs := ls) (enc := lotD) (i := 2) (fun h => .bool (lotFits n h)) rfl scIsLots.nd (di_tup (dv 1))
    (fun _ _ _ _ _ h _ => de_call C hr (by decide) (da_cons (dv 0) (da_one (dv 2))) (.inl ⟨n, h, rfl, rfl⟩)) (fun _ _ => imm_bool _) (by omega)))) rc_allM)))
theorem apart_map {ls : List (List Nat)} {f : List Nat → List Nat → Bool} : (ls.flatMap fun a => ls.map fun b => PyData.bool (f a b)) = (ls.flatMap fun a => ls.map fun b => f a b).map .bool := by
  rw [List.map_flatMap]
  simp only [List.map_map]
  rfl
theorem rc_anyF {ls : List (List Nat)} {f : List Nat → List Nat → Bool} : RCD (rAny K) [.list (ls.flatMap fun a => ls.map fun b => PyData.bool (f a b))] (.bool ((ls.flatMap fun a => ls.map fun b => f a b).any id)) := by
  rw [apart_map]
  exact rc_any
theorem ok_fears_fit (B : Bi mg) (F : Has K mg "fears_fit" sFearsFit ["many", "thing"]) (C : Cal P w K mg base CX0 5 "is_lots" ["many", "thing"] (spD rIsLots)) (C2 : Cal P w K mg base CX0 1 "lot_within" ["one", "other"] (spD rWithin)) : Cal P w K mg base CX0 6 "fears_fit" ["many", "thing"] (spD rFearsFit) := by
  refine okD F scFearsFit (fun ds d ⟨_, _, _, _, h, _⟩ => by rw [h]; rfl) fun f cdv A outer s H E ds d hr hR => ?_
  obtain ⟨n, ls, hl, hl2, rfl, rfl⟩ := hR
  have hlen : (lotsD ls) = .tuple (ls.map lotD) := rfl
  refine hs_seq (hs_guard (b := !ls.all (lotFits n) || decide (ls.length = 0)) (dt_w (dw_or (dt_not (dt_val (de_call C hr (by decide) (da_cons (dv 0) (da_one (dv 1))) ⟨n, ls, by omega, rfl, rfl⟩))) fun _ => dw_or1 (dt_of (dt_cmp op_eq (de_callB call_len_seq B.len (by decide +kernel) (da_one (dv 1)) rc_lenT) de_int r2_eqI) ?_))) (fun h => hs_one (hs_ret (de_of de_bl ?_)))) (hss_fact fun hc => ?_)
  · rw [List.length_map]
    show (((ls.length : Nat) : Int) == ((0 : Nat) : Int)) = _
    rw [beq_nat]
    by_cases h : ls.length = 0 <;> simp [h]
  · unfold fearsFit
    rw [if_pos h]
  · have e : fearsFit n ls = (ascB ls && apartB ls) := by
      unfold fearsFit
      rw [if_neg (by rw [hc]; exact Bool.false_ne_true)]
    have hpos : ls.length ≠ 0 := fun z => by simp [z] at hc
    rw [e]
    refine hs_seq (M := fun σ H' => ascB ls = true ∧ At H (st0 ["many", "thing", "at", "one", "other"] [nat n, lotsD ls]) σ H') ?_ (hss_fact fun hok => hs_one (hs_ret (de_of (de_not (k := (ls.flatMap fun a => ls.map fun b => !decide (a = b) && within a b).any id) (de_callB (cr_any rfl) B.any (by decide +kernel) (da_one (de_dl (dl_lc2 (xs := ls) (ys := ls) (enc := lotD) (enc1 := lotD) (i := 3) (j := 4) (zi := 1)
      (fun a b => .bool (!decide (a = b) && within a b)) rfl scFearsFit.nd (di_tup (dv 1)) (fun _ _ _ _ _ a b ha hb => de_and (de_cmp (op_neD hr.units) (dv 3) (dv 4) r2_neLot) fun _ => de_one (de_call C2 hr (by decide) (da_cons (dv 3) (da_one (dv 4))) ⟨a, b, hl2 a ha, rfl, rfl⟩))
      rfl (fun _ _ => imm_lot _) (fun _ _ => imm_lot _) (fun _ _ _ _ => imm_bool _) ?_))) rc_anyF)) ?_)))
    · refine hs_forP (k := 2) (F := fun i => ∀ j, j < i → leL (ls.getD (1 + j) []) (ls.getD j []) = false) (J := fun _ => st0 ["many", "thing", "at", "one", "other"] [nat n, lotsD ls]) (xs := List.range ((ls.length : Int) - 1).toNat) (enc := fun (i : Nat) => .int (1 + (i : Int))) PassesOwn.never rfl
        (di_dr (dr_2 (lo := 1) (hi := (ls.length : Int)) B.range de_int (de_of (de_callB call_len_seq B.len (by decide +kernel) (da_one (dv 1)) rc_lenT) (by rw [List.length_map]; rfl)) (by omega)))
        (pg_name (i := 2) scFearsFit.nd rfl (.inl rfl)) (Fgt.refl _) (fun j hj => by omega) (fun H1 e1 i a hi hf => ?_) (fun hf σ H' ha => ⟨?_, ha⟩)
      · obtain ⟨hi1, hi2⟩ := List.getElem?_eq_some_iff.mp hi
        rw [List.getElem_range] at hi2
        subst hi2
        rw [List.length_range] at hi1
        have g1 : (ls.map lotD)[1 + i]? = some (lotD (ls.getD (1 + i) [])) := by rw [List.getElem?_map, List.getD_eq_getElem?_getD, List.getElem?_eq_getElem (by omega)]; rfl
        have g2 : (ls.map lotD)[i]? = some (lotD (ls.getD i [])) := by rw [List.getElem?_map, List.getD_eq_getElem?_getD, List.getElem?_eq_getElem (by omega)]; rfl
        refine hs_seq (hs_guard (dt_cmp (op_leT hr.units0) (de_ix ix_tup (dv 1) (dv 2) (r2_ixT (k := 1 + i) (by omega) g1)) (de_ix ix_tup (dv 1) (de_op op_sub (dv 2) de_int r2_I0) (r2_ixT (k := i) (by omega) g2)) r2_leLot) (fun h => hs_one (hs_ret (de_of de_bl ?_) (RetD.base e1)))) (hss_fact fun hc2 => hs_nil fun σ H' q => ⟨fun j hj => ?_, q.fgt (fgt_of (by simp [fgtB, st0]))⟩)
        · have : ascB ls = false := by
            unfold ascB
            rw [List.all_eq_false]
            exact ⟨i, List.mem_range.mpr (by omega), by rw [h]; exact Bool.false_ne_true⟩
          rw [this] <;> rfl
        · rcases Nat.lt_or_ge j i with h | h
          · exact hf j h
          · rw [show j = i by omega]; exact hc2
      · unfold ascB
        rw [List.all_eq_true]
        intro j hj
        rw [hf j (by rw [List.length_range]; have := List.mem_range.mp hj; omega)] <;> rfl
    · have : ls.length * ls.length ≤ 30 * 30 := Nat.mul_le_mul hl hl
      omega
    · rw [hok]; rfl
theorem allLots_length : ∀ n, (allLots n).length = 2 ^ n
  | 0 => rfl
  | n + 1 => by
    show (allLots n ++ (allLots n).map (· ++ [n])).length = _
    rw [List.length_append, List.length_map, allLots_length n, Nat.pow_succ]
    omega
theorem allLots_each : ∀ n, ∀ l ∈ allLots n, l.length ≤ n
  | 0, l, h => by
    have : l = [] := List.mem_singleton.mp h
    rw [this]; exact Nat.le_refl _
  | n + 1, l, h => by
    rcases List.mem_append.mp h with h | h
    · have := allLots_each n l h; omega
    · obtain ⟨m, hm, rfl⟩ := List.mem_map.mp h
      have := allLots_each n m hm
      rw [List.length_append]
      simp
      exact this
theorem ok_lots_in (B : Bi mg) (F : Has K mg "lots_in" sLotsIn ["many"]) : Cal P w K mg base CX0 1 "lots_in" ["many"] (spL rLotsIn) := by
  refine okL F scLotsIn (fun ds d ⟨_, _, h, _⟩ => by rw [h]; rfl) fun f cdv A outer s H E ds d hr hR => ?_
  obtain ⟨n, hn, rfl, rfl⟩ := hR
  refine hs_seq (hs_set (i := 1) scLotsIn.nd (de_dl (dl_lst (da_one (de_tup da_nil))))) ?_
  refine hs_seq (M := At H [some (nat n), some (.list ((allLots n).map lotD)), none, none]) ?_ (hs_one (hs_retL (dl_callB (cr_sortedT hr.units) B.sorted (by decide +kernel) (da_one (dv 1)) rl_sorted)))
  refine hs_forT (k := 2) (J := fun i => [some (nat n), some (.list ((allLots i).map lotD)), none, none]) (xs := List.range n) (enc := nat) PassesOwn.never rfl (di_r1 B.range (dv 0) (by omega)) (pg_name (i := 2) scLotsIn.nd rfl (.inr rfl)) (fgt_of (by simp [fgtB, st0, allLots, lotD])) (fun H1 e1 i a hi => ?_) (fun σ H' ha => by rw [List.length_range] at ha; exact ha)
  obtain ⟨hi1, hi2⟩ := List.getElem?_eq_some_iff.mp hi
  rw [List.getElem_range] at hi2
  subst hi2
  rw [List.length_range] at hi1
  have hz : (allLots i).length ≤ 64 := by
    rw [allLots_length]
    have : 2 ^ i ≤ 2 ^ 6 := Nat.pow_le_pow_right (by omega) (by omega)
    omega
  refine hs_one (hs_setZ (i := 1) (d := .list ((allLots (i + 1)).map lotD)) scLotsIn.nd (de_of (de_op op_cat (dv 1) (de_dl (dl_map (xs := allLots i) (enc := lotD) (i := 3) (fun l => lotD (l ++ [i])) rfl scLotsIn.nd (di_list (dv 1))
    (fun _ _ _ _ _ l hl => de_of (de_op op_catA (dv 3) (de_tup (da_one (dv 2))) (r2_catT (by have := allLots_each i l hl; simp; omega))) (by unfold lotD; rw [List.map_append]; rfl)) (fun _ _ => imm_lot _) (by omega))) (r2_catL (by simp; omega))) ?_) (fgt_of (by simp [fgtB])) fun _ _ q => q)
  show PyData.list ((allLots i).map lotD ++ (allLots i).map fun l => lotD (l ++ [i])) = .list ((allLots i ++ (allLots i).map (· ++ [i])).map lotD)
  rw [List.map_append, List.map_map]
  rfl
end
end Kp

set_option Elab.async false
set_option linter.all false
set_option maxRecDepth 100000
set_option maxHeartbeats 4000000
namespace Pz
open PySem PySem.Spec PyProof.Rows L2
section
variable {X : Cx} {P : As} {Z : Ends} {H0 : Hp} {ρ : Pz.Env} {e a b tg : Expr} {pos p : Pos} {x : Str} {d : PyData} {ds es : List PyData} {i k : Nat}
theorem rgD_nat2 (lo m : Nat) : rgD (lo : Int) m = (List.range' lo m).map nat := by
  unfold rgD nat
  rw [List.range'_eq_map_range, List.map_map]
  refine List.map_congr_left fun i _ => ?_
  show PyData.int ((lo : Int) + (i : Int)) = PyData.int ((lo + i : Nat) : Int)
  rw [Int.natCast_add]
theorem di_r2 {lo hi : Nat} (hm : X.mg "range" = none) (ha : DE X a ρ (nat lo)) (hb : DE X b ρ (nat hi)) (hl : lo ≤ 1000) (hh : hi ≤ 1000) (hg : Gl X "range" := by rfl)
    (na : starEach (a :: [b]) X.env = (false, eval a X.env) :: starEach [b] X.env := by rfl) (nb : starEach (b :: []) X.env = (false, eval b X.env) :: starEach [] X.env := by rfl)
    (hs : starEach [a, b] X.env = [(false, eval a X.env), (false, eval b X.env)] := by rfl) (hs2 : starEach [b] X.env = [(false, eval b X.env)] := by rfl) : DI X tg (.Call (.Name "range" p) [a, b] [] pos) ρ ((List.range' lo (hi - lo)).map nat) := by
  have h := di_dr (dr_2 (tg := tg) (pos := pos) (p := p) hm ha hb (by omega) hg na nb hs hs2)
  rw [show ((hi : Int) - (lo : Int)).toNat = hi - lo by omega, rgD_nat2] at h
  exact h
theorem hs_forMN {iter : Expr} {body : List Stmt} {E : Nat → List PyData} {J : Nat → Pz.Env} {F : Nat → Prop} {n : Nat} (hp : PassesOwn (model X.prog X.w) X.A X.env X.xe) (hc : X.calm = true)
    (hit : DR X (.Name x p) iter (ρ.set k (some (.list (E 0)))) 0 n) (hg : PG X (.Name x p) (gName i)) (h0 : Fgt ρ (J 0)) (f0 : F 0) (hik : i ≠ k)
    (hb : ∀ j, j < n → F j → HSs X body (AtM H0 k (E j) ((J j).set i (some (nat j)))) { nx := fun σ H => F (j + 1) ∧ AtM H0 k (E (j + 1)) (J (j + 1)) σ H, rt := Z.rt, ct := fun σ H => F (j + 1) ∧ AtM H0 k (E (j + 1)) (J (j + 1)) σ H })
    (hd : F n → ∀ σ H, AtM H0 k (E n) (J n) σ H → Z.nx σ H) (hs : ∀ x, foldedSetIterable iter X.env x = pure x := by intro _; rfl) : HS X (.For (.Name x p) iter body [] pos) (AtM H0 k (E 0) ρ) Z :=
  hs_forMP hp hc hit hg h0 f0 hik (fun j hj hf => by rw [Int.zero_add]; exact hb j hj hf) hd hs
end
end Pz
namespace Kp
open PySem PySem.Spec PyProof.Rows L2 Pz
section
variable {P : Program} {w : World} {K : PySem.W.Frag} {mg : Str → Option Value} {base : Heap}
abbrev sPartsIn : Stmt := top 18
abbrev sAtomsIn : Stmt := top 19
theorem scPartsIn : FnScope ["many", "fears", "lot"] ["many", "fears"] (defScope sPartsIn) := ⟨rfl, rfl, rfl, by decide +kernel, rfl, by decide +kernel, by decide +kernel⟩
theorem scAtomsIn : FnScope ["many", "fears", "partings", "atoms", "house", "atom", "kin", "near", "lot"] ["many", "fears"] (defScope sAtomsIn) := ⟨rfl, rfl, rfl, by decide +kernel, rfl, by decide +kernel, by decide +kernel⟩
def partsB (n : Nat) (fears : List (List Nat)) (l : List Nat) : Bool := feared fears l && feared fears (others n l)
def partsL (n : Nat) (fears : List (List Nat)) : List (List Nat) := (srtL (allLots n)).filter (partsB n fears)
def kinOf (n : Nat) (parts : List (List Nat)) (h : Nat) : List Nat := (List.range' h (n - h)).filter fun near => !parts.any fun lot => !(decide (h ∈ lot) == decide (near ∈ lot))
def atomsN (n : Nat) (parts : List (List Nat)) : Nat → List (List Nat)
  | 0 => []
  | i + 1 => if (atomsN n parts i).any (fun a => decide (i ∈ a)) = true then atomsN n parts i else atomsN n parts i ++ [kinOf n parts i]
def rPartsIn (ds : List PyData) (d : PyData) : Prop := ∃ (n : Nat) (fears : List (List Nat)), n ≤ 6 ∧ fears.length ≤ 30 ∧ ds = [nat n, lotsD fears] ∧ d = lotsD (partsL n fears)
def rAtomsIn (ds : List PyData) (d : PyData) : Prop := ∃ (n : Nat) (fears : List (List Nat)), n ≤ 6 ∧ fears.length ≤ 30 ∧ ds = [nat n, lotsD fears] ∧ d = lotsD (atomsN n (partsL n fears) n)
theorem srt_each {n : Nat} {l : List Nat} (h : l ∈ srtL (allLots n)) : l.length ≤ n := allLots_each n l ((srtL_perm _).mem_iff.mp h)
theorem srt_len (n : Nat) : (srtL (allLots n)).length = 2 ^ n := by rw [(srtL_perm _).length_eq, allLots_length]
theorem p26 {n : Nat} (h : n ≤ 6) : 2 ^ n ≤ 64 := Nat.pow_le_pow_right (n := 2) (by omega) h
theorem others_len (n : Nat) (l : List Nat) : (others n l).length ≤ n := by
  have := List.length_filter_le (fun h => !decide (h ∈ l)) (List.range n)
  rw [List.length_range] at this
  exact this
theorem parts_len {n : Nat} (h : n ≤ 6) (fears : List (List Nat)) : (partsL n fears).length ≤ 64 := by
  have := List.length_filter_le (partsB n fears) (srtL (allLots n))
  rw [srt_len] at this
  have := p26 h
  unfold partsL
  omega
theorem ok_parts_in (B : Bi mg) (F : Has K mg "partings_in" sPartsIn ["many", "fears"]) (C1 : Cal P w K mg base CX0 1 "lots_in" ["many"] (spL rLotsIn)) (C2 : Cal P w K mg base CX0 2 "feared_in" ["fears", "lot"] (spD rFeared)) (C3 : Cal P w K mg base CX0 1 "others_in" ["many", "lot"] (spD rOthers)) :
    Cal P w K mg base CX0 3 "partings_in" ["many", "fears"] (spD rPartsIn) := by
  refine okD F scPartsIn (fun ds d ⟨_, _, _, _, h, _⟩ => by rw [h]; rfl) fun f cdv A outer s H E ds d hr hR => ?_
  obtain ⟨n, fears, hn, hf, rfl, rfl⟩ := hR
  refine hs_one (hs_ret (de_callTy call_tuple_of B.tuple (by decide +kernel) (da_one (de_dl (dl_lc (xs := srtL (allLots n)) (enc := lotD) (i := 2) (partsB n fears) lotD rfl scPartsIn.nd (di_list (de_dl (dl_call C1 hr (by decide) (da_one (dv 0)) ⟨n, hn, rfl, rfl⟩)))
    (fun _ _ _ _ _ l hl => dts_one (dt_w (dw_and (dt_val (de_call C2 hr (by decide) (da_cons (dv 1) (da_one (dv 2))) ⟨fears, l, by omega, ?_, rfl, rfl⟩)) fun _ => dw_and1 (dt_val (de_call C2 hr (by decide) (da_cons (dv 1) (da_one (de_call C3 hr (by decide) (da_cons (dv 0) (da_one (dv 2))) ⟨n, l, by omega, rfl, rfl⟩))) ⟨fears, others n l, by omega, ?_, rfl, rfl⟩)))))
    (fun _ _ _ _ _ l _ _ => dv 2) (fun _ _ _ => imm_lot _) ?_))) rc_tup))
  · have := srt_each hl; omega
  · have := others_len n l; omega
  · rw [srt_len]; have := p26 hn; omega
theorem atomsN_len (n : Nat) (parts : List (List Nat)) : ∀ i, (atomsN n parts i).length ≤ i
  | 0 => Nat.le_refl _
  | i + 1 => by
    have := atomsN_len n parts i
    unfold atomsN
    split
    · omega
    · rw [List.length_append]
      simp
      exact this
theorem kin_len (n : Nat) (parts : List (List Nat)) (h : Nat) : (kinOf n parts h).length ≤ n := by
  have := List.length_filter_le (fun near => !parts.any fun lot => !(decide (h ∈ lot) == decide (near ∈ lot))) (List.range' h (n - h))
  rw [List.length_range'] at this
  unfold kinOf
  omega
theorem ok_atoms_in (B : Bi mg) (F : Has K mg "atoms_in" sAtomsIn ["many", "fears"]) (C : Cal P w K mg base CX0 3 "partings_in" ["many", "fears"] (spD rPartsIn)) : Cal P w K mg base CX0 4 "atoms_in" ["many", "fears"] (spD rAtomsIn) := by
  refine okD F scAtomsIn (fun ds d ⟨_, _, _, _, h, _⟩ => by rw [h]; rfl) fun f cdv A outer s H E ds d hr hR => ?_
  obtain ⟨n, fears, hn, hf, rfl, rfl⟩ := hR
  have hpl := parts_len hn fears
  generalize hparts : partsL n fears = parts at hpl
  refine hs_seq (hs_set (i := 2) scAtomsIn.nd (de_call C hr (by decide) (da_cons (dv 0) (da_one (dv 1))) ⟨n, fears, hn, hf, rfl, rfl⟩)) ?_
  rw [hparts]
  refine hs_seq (hs_newM (i := 3) scAtomsIn.nd (dl_lst da_nil) rfl (by simp [st0])) ?_
  refine hs_seq (M := AtM H 3 ((atomsN n parts n).map lotD) [some (nat n), some (lotsD fears), some (lotsD parts), none, none, none, none, none, none]) ?_ (hss_pre (hs_one (hs_ret (ρ := [some (nat n), some (lotsD fears), some (lotsD parts), some (.list ((atomsN n parts n).map lotD)), none, none, none, none, none]) (de_callTy call_tuple_of B.tuple (by decide +kernel) (da_one (dv 3)) rc_tup))) fun σ H' q => q.at_)
  refine hs_forMN (i := 4) (k := 3) (n := n) (E := fun i => (atomsN n parts i).map lotD) (J := fun _ => [some (nat n), some (lotsD fears), some (lotsD parts), none, none, none, none, none, none]) (F := fun _ => True) PassesOwn.never rfl (dr_1 B.range (dv 0) (by omega)) (pg_name (i := 4) scAtomsIn.nd rfl (.inr rfl)) (fgt_of (by simp [fgtB, st0])) trivial (by decide)
    (fun j hj _ => ?_) (fun _ σ H' q => q)
  have hal := atomsN_len n parts j
  refine hs_seq (hs_guardM (b := (atomsN n parts j).any fun a => decide (j ∈ a)) (dt_val (de_callB (cr_any rfl) B.any (by decide +kernel) (da_one (de_dl (dl_map (xs := atomsN n parts j) (enc := lotD) (i := 5) (fun a => .bool (decide (j ∈ a))) rfl scAtomsIn.nd (di_list (dv 3)) (fun _ _ _ _ _ a _ => de_cmp op_in_seq (dv 4) (dv 5) r2_inLot) (fun _ _ => imm_bool _) (by omega)))) rc_anyM))
    (fun h => hs_one (hs_cont fun σ H' q => ⟨trivial, ?_⟩))) (hss_fact fun hc => ?_)
  · have e : atomsN n parts (j + 1) = atomsN n parts j := by
      rw [atomsN, if_pos h]
    rw [e]
    exact q.fgt (fgt_of (by simp [fgtB]))
  · have e : atomsN n parts (j + 1) = atomsN n parts j ++ [kinOf n parts j] := by
      rw [atomsN, if_neg (by rw [hc]; exact Bool.false_ne_true)]
    refine hs_seq (hs_lcM (i := 6) (pl_lc (xs := List.range' j (n - j)) (enc := nat) (i := 7) (j := 6) (fun near => !parts.any fun lot => !(decide (j ∈ lot) == decide (near ∈ lot))) nat rfl scAtomsIn.nd (di_r2 B.range (dv 4) (dv 0) (by omega) (by omega))
      (fun _ _ _ _ _ near hnear => dts_one (dt_not (dt_val (de_callB (cr_any rfl) B.any (by decide +kernel) (da_one (de_dl (dl_map (xs := parts) (enc := lotD) (i := 8) (fun lot => .bool (!(decide (j ∈ lot) == decide (near ∈ lot)))) rfl scAtomsIn.nd (di_tup (dv 2))
        (fun _ _ _ _ _ lot _ => de_cmp op_ne (de_cmp op_in_seq (dv 4) (dv 8) r2_inLot) (de_cmp op_in_seq (dv 7) (dv 8) r2_inLot) r2_neB) (fun _ _ => imm_bool _) (by omega)))) rc_anyM))))
      (fun _ _ _ _ _ near _ _ => dv 7) (fun _ _ _ => imm_nat _) (by simp; omega)) (immA_nats _)) ?_
    refine hs_one (hs_appZ (d := lotD (kinOf n parts j)) (de_callTy call_tuple_of B.tuple (by decide +kernel) (da_one (dv 6)) rc_tup) (imm_lot _) (by simp; omega) (fun σ H' q => ?_)
      (T := fun he => pe_bm PySem.F.plainAttrs_list PySem.F.slot_list_append PySem.F.type_list_append mt_append (pv 3) (pa_cons he pa_nil)))
    refine ⟨trivial, ?_⟩
    rw [e, List.map_append]
    exact q.fgt (fgt_of (by simp [fgtB]))
end
end Kp

set_option Elab.async false
set_option linter.all false
set_option maxRecDepth 100000
set_option maxHeartbeats 4000000
namespace Kp
open PySem PySem.Spec PyProof.Rows L2 Pz
/-- the class body's first def -/
def sInit : Stmt := match top 3 with
  | .ClassDef _ _ _ (b :: _) _ _ _ _ _ _ _ => b
  | _ => .Pass ⟨0, 0, 0, 0⟩
abbrev sWant : Stmt := top 5
abbrev sIsP : Stmt := top 20
abbrev sPartsOf : Stmt := top 21
abbrev sPartOf : Stmt := top 22
abbrev sAtomsOf : Stmt := top 23
abbrev sAtomAt : Stmt := top 24
abbrev sFew : Stmt := top 26
theorem scInit : FnScope ["self", "word", "at"] ["self", "word", "at"] (defScope sInit) := ⟨rfl, rfl, rfl, by decide +kernel, rfl, by decide +kernel, by decide +kernel⟩
theorem scWant : FnScope ["good", "word"] ["good", "word"] (defScope sWant) := ⟨rfl, rfl, rfl, by decide +kernel, rfl, by decide +kernel, by decide +kernel⟩
/-- what __init__ leaves -/
def spI (C : Addr) : Sp := fun vs H Q _ => ∃ (a : Addr) (x y : V), vs = [.ref a, x, y] ∧ H a = some (exo a C none) ∧ ∀ dx, H dx = none → dx ≠ a → Q .non (upd (upd (upd H dx (exd dx [("word", x)])) a (exo a C (some dx))) dx (exd dx [("at", y), ("word", x)]))
/-- the error that tells the word, all tracked at H0 as it was -/
def EOut (C : Addr) (wd : Str) (H0 : Hp) : XK := fun cls d H => cls = .ref C ∧ Same H0 H ∧ ∃ dd, d = some dd ∧ H dd = some (.xd [("at", .int (-1)), ("word", .str wd)])
theorem EOut.base {C : Addr} {wd : Str} {H0 H1 : Hp} (e : Same H0 H1) {cls : Value} {d : Option Addr} {H : Hp} (h : EOut C wd H1 cls d H) : EOut C wd H0 cls d H := ⟨h.1, e.trans h.2.1, h.2.2⟩
/-- gives a datum, or raises -/
def spX (C : Addr) (R : List PyData → PyData ⊕ Str → Prop) : Sp := fun vs H Q E => ∃ ds o, R ds o ∧ RpA H ds vs ∧ (∀ d, o = .inl d → ∀ v H', Same H H' → Rp H' d v → Q v H') ∧ ∀ wd, o = .inr wd → ∀ cls d H', EOut C wd H cls d H' → E cls d H'
/-- the error's class -/
structure NU (P : Program) (w : World) (K : PySem.W.Frag) (mg : Str → Option Value) (base : Heap) (C : Addr) : Prop where
  oex : OexC K C
  gm : mg "NotUsable" = some (.ref C)
  nw : PySem.W.findIn K (.ref C) "word" = some none
  na : PySem.W.findIn K (.ref C) "at" = some none
  ini : ∃ fI fd, PySem.W.findIn K (.ref C) "__init__" = some (some (.ref fI)) ∧ PySem.W.typeIn K (.ref fI) = some (.type "function") ∧ FnOk P w K mg base CX0 1 fI fd ["self", "word", "at"] (spI C) ∧ Binds K fd ["self", "word", "at"] []
section
variable {P : Program} {w : World} {K : PySem.W.Frag} {mg : Str → Option Value} {base : Heap} {C : Addr}
theorem ok_init {f : Addr} {fd : FuncData} (T : OexC K C) (nw : PySem.W.findIn K (.ref C) "word" = some none) (na : PySem.W.findIn K (.ref C) "at" = some none) (F : Fun K "__init__" "NotUsable.__init__" sInit f fd) : FnOk P w K mg base CX0 1 f fd ["self", "word", "at"] (spI C) := by
  refine F.ok scInit (fun vs H Q E ⟨a, x, y, h, _⟩ => by rw [h]; rfl) fun cdv A outer s H vs Q E hr ⟨a, x, y, h, ha, q⟩ => ⟨_, pss_cons (ps_ost (pv 0) (pv 1)) (pss_one (ps_ost (pv 0) (pv 2))), ?_⟩
  subst h
  refine ⟨_, rfl, _, rfl, a, C, rfl, T, nw, .inl ⟨ha, fun dx hd ne => ?_⟩⟩
  refine ⟨_, rfl, _, rfl, a, C, rfl, T, na, .inr ⟨dx, _, upd_same, by rw [upd_ne ne]; exact upd_same, by show 1 ≤ 900; omega, q dx hd ne⟩⟩
section
variable {X : Cx} {W : WX} {ρ : Pz.Env} {e : Expr} {H0 : Hp} {Z : Ends} {k : Nat}
def rWant (ds : List PyData) (o : PyData ⊕ Str) : Prop := ∃ (b : Bool) (wd : Str), ds = [.bool b, .str wd] ∧ o = if b = true then .inl .none else .inr wd
theorem ok_want (T : NU P w K mg base C) (F : Has K mg "a_want" sWant ["good", "word"]) : Cal P w K mg base (L2.CX P w) 3 "a_want" ["good", "word"] (spX C rWant) := by
  obtain ⟨f, fd, F, hm, hb⟩ := F.ex
  refine ⟨f, fd, F.okX scWant (fun vs H Q E ⟨ds, o, ⟨_, _, h, _⟩, r, _⟩ => by rw [r.length, h]; rfl) (fun cdv A outer s H vs Q E hr ⟨ds, o, ⟨b, wd, h, ho⟩, r, q, qE⟩ => ?_), hm, F.kp, hb⟩
  subst h
  obtain ⟨fI, fdI, iC, tI, FI, bI⟩ := T.ini
  have tk : Takes (cxOf (L2.CX P w) P w K mg base ["good", "word"] "a_want" (defScope sWant) f cdv A outer s H E) (fun cls d _ H => E cls d H) := takes_of rfl rfl rfl rfl
  refine ⟨_, (hs_one (P := At H (st0 ["good", "word"] [.bool b, .str wd])) (Z := { nx := fun _ H' => Q .non H', rt := Q }) (hs_if (dt_not (dt_val (dv 0))) (fun hb' => hs_one ?_) (fun hb' => hs_nil fun σ H' z => ?_)) : HSs (cxOf (L2.CX P w) P w K mg base ["good", "word"] "a_want" (defScope sWant) f cdv A outer s H E) _ _ _), ⟨Same.refl H, sat_start r⟩, Le.refl _⟩
  · have hbf : b = false := by simpa using hb'
    subst hbf
    refine PS_imp (ps_raise rfl tk (pmk_oex (k := 1) T.oex iC tI FI hr bI .nil pass0 rfl T.gm (da_cons (dv 1) (da_one (de_neg de_int))))) fun D σ H' ⟨z, _⟩ => ⟨z.2, fun vs' H1 e1 r1 => ?_⟩
    obtain ⟨x, y, rfl, rx, ry⟩ := r1.isTwo
    rw [rx.isStr, ry.isInt]
    refine ⟨by show 2 ≤ 1000; omega, fun a ha => ⟨a, _, _, rfl, upd_same, fun dx hd ne => ⟨rfl, dx, _, by rw [upd_ne (Ne.symm ne)]; exact upd_same, upd_same, ?_, ?_⟩⟩⟩
    · rw [upd_ne ne] at hd; exact hd
    · have hd1 : H1 dx = none := by rw [upd_ne ne] at hd; exact hd
      refine qE wd (by rw [ho]; rfl) _ _ _ ⟨rfl, fun b' o' hb2 => ?_, dx, rfl, upd_same⟩
      have h1 := e1 _ _ (z.1 _ _ hb2)
      have n1 : b' ≠ dx := ne_of_none h1 hd1
      have n2 : b' ≠ a := ne_of_none h1 ha
      rw [upd_ne n1, del_ne n2, upd_ne n1, upd_ne n2, upd_ne n1, upd_ne n2]
      exact h1
  · have hbf : b = true := by simpa using hb'
    subst hbf
    exact q .none (by rw [ho]; rfl) _ _ z.1 rp_non
/-- a call that gives -/
theorem de_callX {x : Str} {ps : List Str} {R : List PyData → PyData ⊕ Str → Prop} {j : Nat} {es : List Expr} {ds : List PyData} {d : PyData} {pos p : Pos} (G : Cal X.prog X.w X.K X.mg X.base (L2.CX X.prog X.w) k x ps (spX C R)) (hr : Room j X.A) (hkj : k ≤ j) (ha : DA X (e :: es) ρ ds) (hR : R ds (.inl d)) (hg : Gl X x := by rfl) (hdb : (x == ("__debug__" : Str)) = false := by decide)
    (he : starEach (e :: es) X.env = (false, eval e X.env) :: starEach es X.env := by rfl) (hpl : (backTo pos (starEach es X.env)).any (·.1) = false := by rfl) : DE X (.Call (.Name x p) (e :: es) [] pos) ρ d := by
  obtain ⟨f, fd, G, hm, hk, hb⟩ := G.ex
  exact PE_imp (pe_call G (hr.mono hkj) hg hm hk hb .nil passL ha hdb he hpl) fun σ H Q ⟨s, q⟩ => ⟨s, fun vs H1 e1 r1 => by
    show spX C R (vs ++ []) H1 Q E0
    rw [List.append_nil]
    exact ⟨ds, _, hR, r1, fun d' h v H' e2 r2 => by cases h; exact q v H' (e1.trans e2) r2, fun wd h => by cases h⟩⟩
/-- a call that may raise, as a statement alone or as what is bound -/
theorem pe_callO {x : Str} {ps : List Str} {R : List PyData → PyData ⊕ Str → Prop} {j : Nat} {es : List Expr} {ds : List PyData} {o : PyData ⊕ Str} {pos p : Pos} {E : XK} (tk : Takes X W) (hW : ∀ cls d σ H, E cls d H → W cls d σ H) (G : Cal X.prog X.w X.K X.mg X.base (L2.CX X.prog X.w) k x ps (spX C R)) (hr : Room j X.A) (hkj : k ≤ j) (ha : DA X (e :: es) ρ ds) (hR : R ds o) (hg : Gl X x := by rfl) (hdb : (x == ("__debug__" : Str)) = false := by decide)
    (he : starEach (e :: es) X.env = (false, eval e X.env) :: starEach es X.env := by rfl) (hpl : (backTo pos (starEach es X.env)).any (·.1) = false := by rfl) :
    PE X (.Call (.Name x p) (e :: es) [] pos) (fun σ H Q => Sat ρ σ H ∧ (∀ d, o = .inl d → ∀ v H', Same H H' → Rp H' d v → Q v H') ∧ ∀ wd, o = .inr wd → ∀ cls d H', EOut C wd H cls d H' → E cls d H') := by
  obtain ⟨f, fd, G, hm, hk, hb⟩ := G.ex
  exact PE_imp (pe_call G (hr.mono hkj) hg hm hk hb .nil (passes_call tk hW) ha hdb he hpl) fun σ H Q ⟨s, q, qE⟩ => ⟨s, fun vs H1 e1 r1 => by
    show spX C R (vs ++ []) H1 Q E
    rw [List.append_nil]
    exact ⟨ds, o, hR, r1, fun d' h v H' e2 r2 => q d' h v H' (e1.trans e2) r2, fun wd h cls d H' z => qE wd h cls d H' (z.base e1)⟩⟩
/-- a_want(e, 'word'), then the rest -/
theorem hs_want {rest : List Stmt} {b : Bool} {wd : Str} {jn : Nat} {pos spos p p2 : Pos} {E : XK} (tk : Takes X (fun cls d _ H => E cls d H)) (G : Cal X.prog X.w X.K X.mg X.base (L2.CX X.prog X.w) 3 "a_want" ["good", "word"] (spX C rWant)) (hr : Room k X.A) (hk : 3 ≤ k) (he : DE X e ρ (.bool b)) (h1 : b = true → HSs X rest (At H0 ρ) Z)
    (h2 : b = false → ∀ cls d H', EOut C wd H0 cls d H' → E cls d H') (hg : Gl X "a_want" := by rfl)
    (hs : swapsWith (.Call (.Name "a_want" p) [e, .Constant (.str wd) jn p2] [] pos) none spos.line X.env = pure false := by rfl)
    (s1 : starEach (e :: [.Constant (.str wd) jn p2]) X.env = (false, eval e X.env) :: starEach [.Constant (.str wd) jn p2] X.env := by rfl) (s2 : starEach (.Constant (.str wd) jn p2 :: []) X.env = (false, eval (.Constant (.str wd) jn p2) X.env) :: starEach [] X.env := by rfl)
    (hpl : (backTo pos (starEach [.Constant (.str wd) jn p2] X.env)).any (·.1) = false := by rfl) : HSs X (.Expr (.Call (.Name "a_want" p) [e, .Constant (.str wd) jn p2] [] pos) spos :: rest) (At H0 ρ) Z := by
  have T := ps_expr (pe_callO (p := p) (pos := pos) (W := fun cls d _ H => E cls d H) tk (fun _ _ _ _ h => h) G hr hk (da_cons he (da_one (de_str (i := wd) (j := jn) (pos := p2)) s2) s1) ⟨b, wd, rfl, rfl⟩ hg (by decide) s1 hpl) hs
  cases b with
  | true =>
    refine hs_seq (M := At H0 ρ) (PS_imp T fun D σ H ⟨q, l⟩ => ⟨q.2, fun d h v H' e1 r => l.1 _ _ (at_stab σ H H' q e1), fun wd h => by cases h⟩) (h1 rfl)
  | false =>
    refine hs_seq (M := fun _ _ => False) (PS_imp T fun D σ H ⟨q, l⟩ => ⟨q.2, fun d h => (by cases h), fun wd' h cls d H' z => ?_⟩) ⟨fun _ _ _ _ _ _ z => z.1.elim⟩
    cases h
    exact h2 rfl cls d H' (z.base q.1)
end
/-- a def that keeps its promise, by its name and its text -/
def CalK (P : Program) (w : World) (K : PySem.W.Frag) (mg : Str → Option Value) (base : Heap) (CX : CXT) (k : Nat) (x : String) (st : Stmt) (ps : List Str) (sp : Sp) : Prop :=
  ∃ f fd, FnOk P w K mg base CX k f fd ps sp ∧ mg x = some (.ref f) ∧ PySem.W.keepIn K (.ref f) = true ∧ Binds K fd ps [] ∧ Fun K x x st f fd
theorem CalK.cal {CX : CXT} {k : Nat} {x : String} {st : Stmt} {ps : List Str} {sp : Sp} (h : CalK P w K mg base CX k x st ps sp) : Cal P w K mg base CX k x ps sp := by
  obtain ⟨f, fd, h1, h2, h3, h4, _⟩ := h
  exact ⟨f, fd, h1, h2, h3, h4⟩
/-- a def that may raise -/
theorem okXK {x : String} {st : Stmt} {N ps : List Str} {k : Nat} {R : List PyData → PyData ⊕ Str → Prop} (F : Has K mg x st ps) (S : FnScope N ps (defScope st)) (len : ∀ ds d, R ds d → ds.length = ps.length)
    (body : ∀ (f : Addr) (cdv : Value) (A : Around) (outer : List PySem.Env) (s : Shared) (H : Hp) (E : XK) (ds : List PyData) (o : PyData ⊕ Str), Room k (A.deeper (envOfC x (defScope st) s.heap.objs.size f cdv)) → R ds o → (∀ wd, o = .inr wd → ∀ cls d H', EOut C wd H cls d H' → E cls d H') →
      HSs (cxOf (L2.CX P w) P w K mg base N x (defScope st) f cdv A outer s H E) (defBody st) (At H (st0 N ds)) { nx := fun _ _ => False, rt := fun v H' => ∃ d, o = .inl d ∧ RetD H d v H' }) : CalK P w K mg base (L2.CX P w) (k + 1) x st ps (spX C R) := by
  obtain ⟨f, fd, F, hm, hb⟩ := F.ex
  refine ⟨f, fd, F.okX S (fun vs H Q E ⟨ds, o, hR, r, _⟩ => by rw [r.length]; exact len ds o hR) (fun cdv A outer s H vs Q E hr ⟨ds, o, hR, r, q, qE⟩ => ⟨_, body f cdv A outer s H E ds o hr hR qE, ⟨Same.refl H, sat_start r⟩, ?_⟩), hm, F.kp, hb, F⟩
  exact ⟨fun σ H' h => h.elim, fun v H' ⟨d, h1, h2⟩ => q d h1 v H' h2.1 h2.2, fun _ _ h => h.elim, fun _ _ h => h.elim⟩
theorem okX {x : String} {st : Stmt} {N ps : List Str} {k : Nat} {R : List PyData → PyData ⊕ Str → Prop} (F : Has K mg x st ps) (S : FnScope N ps (defScope st)) (len : ∀ ds d, R ds d → ds.length = ps.length)
    (body : ∀ (f : Addr) (cdv : Value) (A : Around) (outer : List PySem.Env) (s : Shared) (H : Hp) (E : XK) (ds : List PyData) (o : PyData ⊕ Str), Room k (A.deeper (envOfC x (defScope st) s.heap.objs.size f cdv)) → R ds o → (∀ wd, o = .inr wd → ∀ cls d H', EOut C wd H cls d H' → E cls d H') →
      HSs (cxOf (L2.CX P w) P w K mg base N x (defScope st) f cdv A outer s H E) (defBody st) (At H (st0 N ds)) { nx := fun _ _ => False, rt := fun v H' => ∃ d, o = .inl d ∧ RetD H d v H' }) : Cal P w K mg base (L2.CX P w) (k + 1) x ps (spX C R) := (okXK F S len body).cal
end
end Kp

set_option Elab.async false
set_option linter.all false
set_option maxRecDepth 100000
set_option maxHeartbeats 4000000
namespace Kp
open PySem PySem.Spec PyProof.Rows L2 Pz
/-- a number of houses and its fears -/
structure V (n : Nat) (fears : List (List Nat)) : Prop where
  lo : 1 ≤ n
  hi : n ≤ 6
  len : fears.length ≤ 30
  each : ∀ l ∈ fears, l.length ≤ 100
theorem scIsP : FnScope ["many", "fears", "lot"] ["many", "fears", "lot"] (defScope sIsP) := ⟨rfl, rfl, rfl, by decide +kernel, rfl, by decide +kernel, by decide +kernel⟩
theorem scPartsOf : FnScope ["many", "fears"] ["many", "fears"] (defScope sPartsOf) := ⟨rfl, rfl, rfl, by decide +kernel, rfl, by decide +kernel, by decide +kernel⟩
theorem scPartOf : FnScope ["many", "fears", "one", "other", "lot"] ["many", "fears", "one", "other"] (defScope sPartOf) := ⟨rfl, rfl, rfl, by decide +kernel, rfl, by decide +kernel, by decide +kernel⟩
theorem scAtomsOf : FnScope ["many", "fears"] ["many", "fears"] (defScope sAtomsOf) := ⟨rfl, rfl, rfl, by decide +kernel, rfl, by decide +kernel, by decide +kernel⟩
theorem scAtomAt : FnScope ["many", "fears", "house", "atom"] ["many", "fears", "house"] (defScope sAtomAt) := ⟨rfl, rfl, rfl, by decide +kernel, rfl, by decide +kernel, by decide +kernel⟩
theorem scFew : FnScope ["many", "few", "lot"] ["many", "few"] (defScope sFew) := ⟨rfl, rfl, rfl, by decide +kernel, rfl, by decide +kernel, by decide +kernel⟩
def atomsL (n : Nat) (fears : List (List Nat)) : List (List Nat) := atomsN n (partsL n fears) n
def sideP (a b : Nat) (l : List Nat) : Bool := decide (a ∈ l) && !decide (b ∈ l)
def sideD (n : Nat) (fears : List (List Nat)) (a b : Nat) : PyData := match (partsL n fears).find? (sideP a b) with
  | some l => lotD l
  | none => .none
def fewL (n few : Nat) : List (List Nat) := (srtL (allLots n)).filter fun l => l.length == few
def rIsP (ds : List PyData) (o : PyData ⊕ Str) : Prop := ∃ n fears, V n fears ∧ fearsFit n fears = true ∧
  ((∃ l, l.length ≤ 100 ∧ ds = [nat n, lotsD fears, lotD l] ∧ o = if lotFits n l = true then .inl (.bool (partsB n fears l)) else .inr "lot") ∨ ∃ es, ds = [nat n, lotsD fears, .list es] ∧ o = .inr "lot")
def rPartsOf (ds : List PyData) (o : PyData ⊕ Str) : Prop := ∃ n fears, V n fears ∧ ds = [nat n, lotsD fears] ∧ o = if fearsFit n fears = true then .inl (lotsD (partsL n fears)) else .inr "fears"
def rAtomsOf (ds : List PyData) (o : PyData ⊕ Str) : Prop := ∃ n fears, V n fears ∧ ds = [nat n, lotsD fears] ∧ o = if fearsFit n fears = true then .inl (lotsD (atomsL n fears)) else .inr "fears"
def rAtomAt (ds : List PyData) (o : PyData ⊕ Str) : Prop := ∃ n fears, V n fears ∧ fearsFit n fears = true ∧
  ((∃ (h : Nat) (l : List Nat), h < n ∧ ((atomsL n fears).filter fun a => decide (h ∈ a))[0]? = some l ∧ ds = [nat n, lotsD fears, nat h] ∧ o = .inl (lotD l)) ∨ ∃ x, noD x = true ∧ houseFits n x = false ∧ ds = [nat n, lotsD fears, x] ∧ o = .inr "house")
def rPartOf (ds : List PyData) (o : PyData ⊕ Str) : Prop := ∃ n fears, V n fears ∧ fearsFit n fears = true ∧
  ((∃ x y, noD x = true ∧ houseFits n x = false ∧ ds = [nat n, lotsD fears, x, y] ∧ o = .inr "one") ∨ (∃ (a : Nat) (y : PyData), a < n ∧ noD y = true ∧ houseFits n y = false ∧ ds = [nat n, lotsD fears, nat a, y] ∧ o = .inr "other") ∨
    ∃ a b : Nat, a < n ∧ b < n ∧ ds = [nat n, lotsD fears, nat a, nat b] ∧ o = if a = b then .inr "other" else .inl (sideD n fears a b))
def rFew (ds : List PyData) (d : PyData) : Prop := ∃ n few : Nat, 1 ≤ n ∧ n ≤ 6 ∧ few ≤ n ∧ ds = [nat n, nat few] ∧ d = lotsD (fewL n few)
section
variable {P : Program} {w : World} {K : PySem.W.Frag} {mg : Str → Option Value} {base : Heap} {C : Addr}
/-- the program's defs so far -/
structure Lib (P : Program) (w : World) (K : PySem.W.Frag) (mg : Str → Option Value) (base : Heap) (C : Addr) : Prop where
  bi : Bi mg
  want : Cal P w K mg base (L2.CX P w) 3 "a_want" ["good", "word"] (spX C rWant)
  num : Cal P w K mg base CX0 2 "number_fits" ["thing"] (spD rNum)
  many : Cal P w K mg base CX0 2 "many_fits" ["thing"] (spD rMany)
  house : Cal P w K mg base CX0 3 "house_fits" ["many", "thing"] (spD rHouse)
  lot : Cal P w K mg base CX0 4 "lot_fits" ["many", "thing"] (spD rLot)
  fears : Cal P w K mg base CX0 6 "fears_fit" ["many", "thing"] (spD rFearsFit)
  others : Cal P w K mg base CX0 1 "others_in" ["many", "lot"] (spD rOthers)
  lots : Cal P w K mg base CX0 1 "lots_in" ["many"] (spL rLotsIn)
  feared : Cal P w K mg base CX0 2 "feared_in" ["fears", "lot"] (spD rFeared)
  parts : Cal P w K mg base CX0 3 "partings_in" ["many", "fears"] (spD rPartsIn)
  atoms : Cal P w K mg base CX0 4 "atoms_in" ["many", "fears"] (spD rAtomsIn)
theorem manyOk {n : Nat} (h : 1 ≤ n) : manyFits (nat n) = true := decide_eq_true (by omega : (1 : Int) ≤ (n : Int))
theorem ok_isP (T : Lib P w K mg base C) (F : Has K mg "is_parting" sIsP ["many", "fears", "lot"]) : Cal P w K mg base (L2.CX P w) 7 "is_parting" ["many", "fears", "lot"] (spX C rIsP) := by
  refine okX F scIsP (fun ds d ⟨_, _, _, _, h⟩ => by rcases h with ⟨_, _, h, _⟩ | ⟨_, h, _⟩ <;> rw [h] <;> rfl) fun f cdv A outer s H E ds o hr hR qE => ?_
  have tk : Takes (cxOf (L2.CX P w) P w K mg base ["many", "fears", "lot"] "is_parting" (defScope sIsP) f cdv A outer s H E) (fun cls d _ H => E cls d H) := takes_of rfl rfl rfl rfl
  obtain ⟨n, fears, v, ff, h⟩ := hR
  have step : ∀ {x : PyData} {b : Bool}, ds = [nat n, lotsD fears, x] → rLot [nat n, x] (.bool b) → (b = false → o = .inr "lot") → (b = true → HSs (cxOf (L2.CX P w) P w K mg base ["many", "fears", "lot"] "is_parting" (defScope sIsP) f cdv A outer s H E) ((defBody sIsP).drop 3) (At H (st0 ["many", "fears", "lot"] [nat n, lotsD fears, x])) { nx := fun _ _ => False, rt := fun v H' => ∃ d, o = .inl d ∧ RetD H d v H' }) →
      HSs (cxOf (L2.CX P w) P w K mg base ["many", "fears", "lot"] "is_parting" (defScope sIsP) f cdv A outer s H E) (defBody sIsP) (At H (st0 ["many", "fears", "lot"] ds)) { nx := fun _ _ => False, rt := fun v H' => ∃ d, o = .inl d ∧ RetD H d v H' } := fun {x b} hds hb hf ht => by
    subst hds
    refine hs_want tk T.want hr (by decide) (de_call T.many hr (by decide) (da_one (dv 0)) ⟨_, rfl, rfl, rfl⟩) (fun _ => ?_) (fun z => by rw [manyOk v.lo] at z; cases z)
    refine hs_want tk T.want hr (by decide) (de_call T.fears hr (by decide) (da_cons (dv 0) (da_one (dv 1))) ⟨n, fears, v.len, v.each, rfl, rfl⟩) (fun _ => ?_) (fun z => by rw [ff] at z; cases z)
    exact hs_want tk T.want hr (by decide) (de_call T.lot hr (by decide) (da_cons (dv 0) (da_one (dv 2))) hb) ht fun z => qE "lot" (hf z)
  have hn := v.hi
  have hl := v.len
  rcases h with ⟨l, hz, hds, ho⟩ | ⟨es, hds, ho⟩
  · refine step hds (.inl ⟨n, l, rfl, rfl⟩) (fun z => by rw [ho, if_neg (by rw [z]; exact Bool.false_ne_true)]) fun z => ?_
    rw [if_pos z] at ho
    have ol := others_len n l
    exact hs_one (hs_ret (de_and (k := feared fears l) (m := feared fears (others n l)) (de_call T.feared hr (by decide) (da_cons (dv 1) (da_one (dv 2))) ⟨fears, l, by omega, hz, rfl, rfl⟩) fun _ => de_one (de_call T.feared hr (by decide) (da_cons (dv 1) (da_one (de_call T.others hr (by decide) (da_cons (dv 0) (da_one (dv 2))) ⟨n, l, by omega, rfl, rfl⟩))) ⟨fears, others n l, by omega, by omega, rfl, rfl⟩))
      fun v H' q => ⟨_, ho, q⟩)
  · exact step hds (.inr ⟨n, es, rfl, rfl⟩) (fun _ => ho) fun z => by cases z
theorem ok_partsOf (T : Lib P w K mg base C) (F : Has K mg "partings_of" sPartsOf ["many", "fears"]) : CalK P w K mg base (L2.CX P w) 7 "partings_of" sPartsOf ["many", "fears"] (spX C rPartsOf) := by
  refine okXK F scPartsOf (fun ds d ⟨_, _, _, h, _⟩ => by rw [h]; rfl) fun f cdv A outer s H E ds o hr hR qE => ?_
  have tk : Takes (cxOf (L2.CX P w) P w K mg base ["many", "fears"] "partings_of" (defScope sPartsOf) f cdv A outer s H E) (fun cls d _ H => E cls d H) := takes_of rfl rfl rfl rfl
  obtain ⟨n, fears, v, rfl, ho⟩ := hR
  refine hs_want tk T.want hr (by decide) (de_call T.many hr (by decide) (da_one (dv 0)) ⟨_, rfl, rfl, rfl⟩) (fun _ => ?_) (fun z => by rw [manyOk v.lo] at z; cases z)
  refine hs_want tk T.want hr (by decide) (de_call T.fears hr (by decide) (da_cons (dv 0) (da_one (dv 1))) ⟨n, fears, v.len, v.each, rfl, rfl⟩) (fun z => ?_) (fun z => qE "fears" (by rw [ho, if_neg (by rw [z]; exact Bool.false_ne_true)]))
  rw [if_pos z] at ho
  exact hs_one (hs_ret (de_call T.parts hr (by decide) (da_cons (dv 0) (da_one (dv 1))) ⟨n, fears, v.hi, v.len, rfl, rfl⟩) fun v H' q => ⟨_, ho, q⟩)
theorem ok_atomsOf (T : Lib P w K mg base C) (F : Has K mg "atoms_of" sAtomsOf ["many", "fears"]) : CalK P w K mg base (L2.CX P w) 7 "atoms_of" sAtomsOf ["many", "fears"] (spX C rAtomsOf) := by
  refine okXK F scAtomsOf (fun ds d ⟨_, _, _, h, _⟩ => by rw [h]; rfl) fun f cdv A outer s H E ds o hr hR qE => ?_
  have tk : Takes (cxOf (L2.CX P w) P w K mg base ["many", "fears"] "atoms_of" (defScope sAtomsOf) f cdv A outer s H E) (fun cls d _ H => E cls d H) := takes_of rfl rfl rfl rfl
  obtain ⟨n, fears, v, rfl, ho⟩ := hR
  refine hs_want tk T.want hr (by decide) (de_call T.many hr (by decide) (da_one (dv 0)) ⟨_, rfl, rfl, rfl⟩) (fun _ => ?_) (fun z => by rw [manyOk v.lo] at z; cases z)
  refine hs_want tk T.want hr (by decide) (de_call T.fears hr (by decide) (da_cons (dv 0) (da_one (dv 1))) ⟨n, fears, v.len, v.each, rfl, rfl⟩) (fun z => ?_) (fun z => qE "fears" (by rw [ho, if_neg (by rw [z]; exact Bool.false_ne_true)]))
  rw [if_pos z] at ho
  exact hs_one (hs_ret (de_call T.atoms hr (by decide) (da_cons (dv 0) (da_one (dv 1))) ⟨n, fears, v.hi, v.len, rfl, rfl⟩) fun v H' q => ⟨_, ho, q⟩)
theorem houseOk {n a : Nat} (h : a < n) : houseFits (n : Int) (nat a) = true := by
  rw [houseNat]
  exact decide_eq_true h
theorem ok_atomAt (T : Lib P w K mg base C) (F : Has K mg "atom_at" sAtomAt ["many", "fears", "house"]) : Cal P w K mg base (L2.CX P w) 7 "atom_at" ["many", "fears", "house"] (spX C rAtomAt) := by
  refine okX F scAtomAt (fun ds d ⟨_, _, _, _, h⟩ => by rcases h with ⟨_, _, _, _, h, _⟩ | ⟨_, _, _, h, _⟩ <;> rw [h] <;> rfl) fun f cdv A outer s H E ds o hr hR qE => ?_
  have tk : Takes (cxOf (L2.CX P w) P w K mg base ["many", "fears", "house", "atom"] "atom_at" (defScope sAtomAt) f cdv A outer s H E) (fun cls d _ H => E cls d H) := takes_of rfl rfl rfl rfl
  obtain ⟨n, fears, v, ff, h⟩ := hR
  have hn := v.hi
  rcases h with ⟨h, l, hh, hl, rfl, ho⟩ | ⟨x, nx, hx, rfl, ho⟩
  · refine hs_want tk T.want hr (by decide) (de_call T.many hr (by decide) (da_one (dv 0)) ⟨_, rfl, rfl, rfl⟩) (fun _ => ?_) (fun z => by rw [manyOk v.lo] at z; cases z)
    refine hs_want tk T.want hr (by decide) (de_call T.fears hr (by decide) (da_cons (dv 0) (da_one (dv 1))) ⟨n, fears, v.len, v.each, rfl, rfl⟩) (fun z => ?_) (fun z => by rw [ff] at z; cases z)
    refine hs_want tk T.want hr (by decide) (de_call T.house hr (by decide) (da_cons (dv 0) (da_one (dv 2))) ⟨_, _, rfl, rfl, rfl⟩) (fun z => ?_) (fun z => by rw [houseOk hh] at z; cases z)
    have al := atomsN_len n (partsL n fears) n
    refine hs_one (hs_ret (de_ix ix_list (de_dl (dl_lc (xs := atomsL n fears) (enc := lotD) (i := 3) (fun a => decide (h ∈ a)) lotD rfl scAtomAt.nd (di_tup (de_call T.atoms hr (by decide) (da_cons (dv 0) (da_one (dv 1))) ⟨n, fears, v.hi, v.len, rfl, rfl⟩)) (fun _ _ _ _ _ a _ => dts_one (dt_cmp op_in_seq (dv 2) (dv 3) r2_inLot)) (fun _ _ _ _ _ a _ _ => dv 3) (fun _ _ _ => imm_lot _) (by unfold atomsL; omega))) de_int (r2_ixL (k := 0) rfl ?_)) fun v H' q => ⟨_, ho, q⟩)
    rw [List.getElem?_map, hl] <;> rfl
  · refine hs_want tk T.want hr (by decide) (de_call T.many hr (by decide) (da_one (dv 0)) ⟨_, rfl, rfl, rfl⟩) (fun _ => ?_) (fun z => by rw [manyOk v.lo] at z; cases z)
    refine hs_want tk T.want hr (by decide) (de_call T.fears hr (by decide) (da_cons (dv 0) (da_one (dv 1))) ⟨n, fears, v.len, v.each, rfl, rfl⟩) (fun z => ?_) (fun z => by rw [ff] at z; cases z)
    exact hs_want tk T.want hr (by decide) (de_call T.house hr (by decide) (da_cons (dv 0) (da_one (dv 2))) ⟨_, _, nx, rfl, rfl⟩) (fun z => by rw [hx] at z; cases z) fun z => qE "house" ho
theorem find_step {α : Type} {p : α → Bool} {xs : List α} {i : Nat} {a : α} (h : xs[i]? = some a) (h1 : (xs.take i).find? p = none) (h2 : p a = true) : xs.find? p = some a := by
  obtain ⟨hi, e⟩ := List.getElem?_eq_some_iff.mp h
  have e2 : xs = xs.take i ++ a :: xs.drop (i + 1) := by rw [← e, ← List.drop_eq_getElem_cons hi, List.take_append_drop]
  rw [e2, List.find?_append, h1, List.find?_cons_of_pos h2]
  rfl
theorem find_more {α : Type} {p : α → Bool} {xs : List α} {i : Nat} {a : α} (h : xs[i]? = some a) (h1 : (xs.take i).find? p = none) (h2 : p a = false) : (xs.take (i + 1)).find? p = none := by
  rw [take_more h, List.find?_append, h1, List.find?_cons_of_neg (by rw [h2]; exact Bool.false_ne_true)]
  rfl
theorem ok_partOf (T : Lib P w K mg base C) (F : Has K mg "parting_of" sPartOf ["many", "fears", "one", "other"]) : Cal P w K mg base (L2.CX P w) 7 "parting_of" ["many", "fears", "one", "other"] (spX C rPartOf) := by
  refine okX F scPartOf (fun ds d ⟨_, _, _, _, h⟩ => by rcases h with ⟨_, _, _, _, h, _⟩ | ⟨_, _, _, _, _, h, _⟩ | ⟨_, _, _, _, h, _⟩ <;> rw [h] <;> rfl) fun f cdv A outer s H E ds o hr hR qE => ?_
  have tk : Takes (cxOf (L2.CX P w) P w K mg base ["many", "fears", "one", "other", "lot"] "parting_of" (defScope sPartOf) f cdv A outer s H E) (fun cls d _ H => E cls d H) := takes_of rfl rfl rfl rfl
  obtain ⟨n, fears, v, ff, h⟩ := hR
  have hn := v.hi
  rcases h with ⟨x, y, nx, hx, rfl, ho⟩ | ⟨a, y, ha, ny, hy, rfl, ho⟩ | ⟨a, b, ha, hb, rfl, ho⟩
  · refine hs_want tk T.want hr (by decide) (de_call T.many hr (by decide) (da_one (dv 0)) ⟨_, rfl, rfl, rfl⟩) (fun _ => ?_) (fun z => by rw [manyOk v.lo] at z; cases z)
    refine hs_want tk T.want hr (by decide) (de_call T.fears hr (by decide) (da_cons (dv 0) (da_one (dv 1))) ⟨n, fears, v.len, v.each, rfl, rfl⟩) (fun z => ?_) (fun z => by rw [ff] at z; cases z)
    exact hs_want tk T.want hr (by decide) (de_call T.house hr (by decide) (da_cons (dv 0) (da_one (dv 2))) ⟨_, _, nx, rfl, rfl⟩) (fun z => by rw [hx] at z; cases z) fun z => qE "one" ho
  · refine hs_want tk T.want hr (by decide) (de_call T.many hr (by decide) (da_one (dv 0)) ⟨_, rfl, rfl, rfl⟩) (fun _ => ?_) (fun z => by rw [manyOk v.lo] at z; cases z)
    refine hs_want tk T.want hr (by decide) (de_call T.fears hr (by decide) (da_cons (dv 0) (da_one (dv 1))) ⟨n, fears, v.len, v.each, rfl, rfl⟩) (fun z => ?_) (fun z => by rw [ff] at z; cases z)
    refine hs_want tk T.want hr (by decide) (de_call T.house hr (by decide) (da_cons (dv 0) (da_one (dv 2))) ⟨_, _, rfl, rfl, rfl⟩) (fun z => ?_) (fun z => by rw [houseOk ha] at z; cases z)
    exact hs_want (b := false) tk T.want hr (by decide) (de_and (k := false) (m := false) (de_of (de_call T.house hr (by decide) (da_cons (dv 0) (da_one (dv 3))) ⟨_, _, ny, rfl, rfl⟩) (by rw [hy])) fun z => by cases z) (fun z => by cases z) fun z => qE "other" ho
  · refine hs_want tk T.want hr (by decide) (de_call T.many hr (by decide) (da_one (dv 0)) ⟨_, rfl, rfl, rfl⟩) (fun _ => ?_) (fun z => by rw [manyOk v.lo] at z; cases z)
    refine hs_want tk T.want hr (by decide) (de_call T.fears hr (by decide) (da_cons (dv 0) (da_one (dv 1))) ⟨n, fears, v.len, v.each, rfl, rfl⟩) (fun z => ?_) (fun z => by rw [ff] at z; cases z)
    refine hs_want tk T.want hr (by decide) (de_call T.house hr (by decide) (da_cons (dv 0) (da_one (dv 2))) ⟨_, _, rfl, rfl, rfl⟩) (fun z => ?_) (fun z => by rw [houseOk ha] at z; cases z)
    refine hs_want (b := true && !(a == b)) tk T.want hr (by decide) (de_and (k := true) (m := !(a == b)) (de_of (de_call T.house hr (by decide) (da_cons (dv 0) (da_one (dv 3))) ⟨_, _, rfl, rfl, rfl⟩) (by rw [houseOk hb])) fun _ => de_one (de_cmp op_ne (dv 2) (dv 3) r2_neN)) (fun z => ?_) fun z => qE "other" (by rw [ho, if_pos (by simpa using z)])
    have hab : a ≠ b := by simpa using z
    rw [if_neg hab] at ho
    refine hs_seq (M := fun σ H' => sideD n fears a b = .none ∧ At H (st0 ["many", "fears", "one", "other", "lot"] [nat n, lotsD fears, nat a, nat b]) σ H') ?_ (hss_fact fun hz => hs_one (hs_ret (de_of de_non (by rw [hz])) fun v H' q => ⟨_, ho, q⟩))
    refine hs_forP (k := 4) (F := fun i => ((partsL n fears).take i).find? (sideP a b) = none) (J := fun _ => st0 ["many", "fears", "one", "other", "lot"] [nat n, lotsD fears, nat a, nat b]) (xs := partsL n fears) (enc := lotD) (passes_of rfl) rfl (di_tup (de_call T.parts hr (by decide) (da_cons (dv 0) (da_one (dv 1))) ⟨n, fears, v.hi, v.len, rfl, rfl⟩)) (pg_name (i := 4) scPartOf.nd rfl (.inl rfl)) (Fgt.refl _) rfl
      (fun H1 e1 i l hi hf => ?_) (fun hf σ H' q => ⟨?_, q⟩)
    · refine hs_seq (hs_guard (b := sideP a b l) (dt_w (dw_and (dt_cmp op_in_seq (dv 2) (dv 4) r2_inLot) fun _ => dw_and1 (dt_cmp op_notIn_seq (dv 3) (dv 4) r2_niLot))) (fun h => hs_one (hs_ret (dv 4) fun v H' q => ⟨_, ho, ?_⟩))) (hss_fact fun hc => hs_nil fun σ H' q => ⟨find_more hi hf hc, q.fgt (fgt_of (by simp [fgtB, st0]))⟩)
      have : sideD n fears a b = lotD l := by
        unfold sideD
        rw [find_step hi hf h]
      rw [this]
      exact RetD.base e1 v H' q
    · rw [List.take_length] at hf
      unfold sideD
      rw [hf]
theorem ok_few (T : Lib P w K mg base C) (F : Has K mg "few_fears" sFew ["many", "few"]) : Cal P w K mg base CX0 4 "few_fears" ["many", "few"] (spD rFew) := by
  refine okD F scFew (fun ds d ⟨_, _, _, _, _, h, _⟩ => by rw [h]; rfl) fun f cdv A outer s H E ds d hr hR => ?_
  obtain ⟨n, few, h1, h6, hf, rfl, rfl⟩ := hR
  have keep : ∀ {ρ : Pz.Env} {e : Expr} {wd : Str} {d : PyData}, At H ρ = At H ρ := rfl
  refine hs_seq (M := At H (st0 ["many", "few", "lot"] [nat n, nat few])) (hs_exprG (de_callX T.want hr (by decide) (da_cons (de_call T.many hr (by decide) (da_one (dv 0)) ⟨_, rfl, rfl, rfl⟩) (da_one de_str)) ⟨true, _, by rw [manyOk h1], rfl⟩) (fun _ _ q => q.2) fun σ H' v H2 q e _ => at_stab σ H' H2 q e) ?_
  refine hs_seq (M := At H (st0 ["many", "few", "lot"] [nat n, nat few])) (hs_exprG (de_callX T.want hr (by decide) (da_cons (de_and (k := true) (m := true) (de_of (de_call T.num hr (by decide) (da_one (dv 1)) ⟨_, rfl, rfl, rfl⟩) ?_) fun _ => de_one (de_of (de_cmp op_le (dv 1) (dv 0) r2_B0) ?_)) (da_one de_str)) ⟨true, _, rfl, rfl⟩) (fun _ _ q => q.2) fun σ H' v H2 q e _ => at_stab σ H' H2 q e) ?_
  · show PyData.bool (decide ((0 : Int) ≤ (few : Int))) = .bool true
    rw [decide_eq_true (by omega)]
  · rw [decide_eq_true (by omega)]
  · refine hs_one (hs_ret (de_callTy call_tuple_of T.bi.tuple (by decide +kernel) (da_one (de_dl (dl_lc (xs := srtL (allLots n)) (enc := lotD) (i := 2) (fun l => l.length == few) lotD rfl scFew.nd (di_list (de_dl (dl_call T.lots hr (by decide) (da_one (dv 0)) ⟨n, h6, rfl, rfl⟩)))
      (fun _ _ _ _ _ l hl => dts_one (dt_cmp op_eq (de_of (d := nat l.length) (de_callB call_len_seq T.bi.len (by decide +kernel) (da_one (dv 2)) rc_lenT) (by rw [List.length_map])) (dv 1) r2_eqN)) (fun _ _ _ _ _ l _ _ => dv 2) (fun _ _ _ => imm_lot _) (by rw [srt_len]; have := p26 h6; omega)))) rc_tup))
end
end Kp

set_option Elab.async false
set_option linter.all false
set_option maxRecDepth 100000
set_option maxHeartbeats 4000000
namespace Pz
open PySem PySem.Spec PyProof.Rows L2
section
variable {X : Cx} {ρ : Pz.Env} {e : Expr} {pos p : Pos} {K : PySem.W.Frag}
theorem de_k (i : Nat) {j : Nat} : DE X (.Constant (.int (i : Int)) j pos) ρ (nat i) := de_int
theorem r2_gtN {i j : Nat} : R2D (rI0 fun i j => .bl (decide (j < i))) (nat i) (nat j) (.bool (decide (j < i))) := by
  have h := r2_B0 (g := fun i j => decide (j < i)) (i := (i : Int)) (j := (j : Int))
  rw [show (decide ((j : Int) < (i : Int))) = decide (j < i) from decide_eq_decide.mpr (by omega)] at h
  exact h
theorem r2_leN {i j : Nat} : R2D (rI0 fun i j => .bl (decide (i ≤ j))) (nat i) (nat j) (.bool (decide (i ≤ j))) := by
  have h := r2_B0 (g := fun i j => decide (i ≤ j)) (i := (i : Int)) (j := (j : Int))
  rw [show (decide ((i : Int) ≤ (j : Int))) = decide (i ≤ j) from decide_eq_decide.mpr (by omega)] at h
  exact h
theorem r2_ltN {i j : Nat} : R2D (rI0 fun i j => .bl (decide (i < j))) (nat i) (nat j) (.bool (decide (i < j))) := by
  have h := r2_B0 (g := fun i j => decide (i < j)) (i := (i : Int)) (j := (j : Int))
  rw [show (decide ((i : Int) < (j : Int))) = decide (i < j) from decide_eq_decide.mpr (by omega)] at h
  exact h
theorem r2_addN {i j : Nat} : R2D (rI0 fun i j => .int (i + j)) (nat i) (nat j) (nat (i + j)) := by
  have h := r2_I0 (g := fun i j => i + j) (i := (i : Int)) (j := (j : Int))
  rw [show ((i : Int) + (j : Int)) = ((i + j : Nat) : Int) by omega] at h
  exact h
theorem r2_subN {i j : Nat} (hij : j ≤ i) : R2D (rI0 fun i j => .int (i - j)) (nat i) (nat j) (nat (i - j)) := by
  have h := r2_I0 (g := fun i j => i - j) (i := (i : Int)) (j := (j : Int))
  rw [show ((i : Int) - (j : Int)) = ((i - j : Nat) : Int) by omega] at h
  exact h
theorem r2_mulN {i j : Nat} (hc : j < 1000) : R2D (rI CMul fun i j => .int (i * j)) (nat i) (nat j) (nat (i * j)) := by
  have h := r2_I (C := CMul) (g := fun i j => i * j) (i := (i : Int)) (j := (j : Int)) (.inr ⟨by omega, by omega⟩)
  rw [show ((i : Int) * (j : Int)) = ((i * j : Nat) : Int) from (Int.natCast_mul i j).symm] at h
  exact h
theorem r2_divN {i j : Nat} (h0 : 0 < j) (hc : j < 1000) : R2D (rI CDiv fun i j => .int (i / j)) (nat i) (nat j) (nat (i / j)) := by
  have h := r2_I (C := CDiv) (g := fun i j => i / j) (i := (i : Int)) (j := (j : Int)) ⟨by omega, by omega⟩
  rw [show ((i : Int) / (j : Int)) = ((i / j : Nat) : Int) from (Int.natCast_ediv i j).symm] at h
  exact h
theorem r2_modN {i j : Nat} (h0 : 0 < j) : R2D (rI (fun _ j => 0 < j) fun i j => .int (i % j)) (nat i) (nat j) (nat (i % j)) := by
  have h := r2_I (C := fun _ j => 0 < j) (g := fun i j => i % j) (i := (i : Int)) (j := (j : Int)) (by omega)
  rw [show ((i : Int) % (j : Int)) = ((i % j : Nat) : Int) from (Int.natCast_emod i j).symm] at h
  exact h
theorem r2_andN {i j : Nat} : R2D (rI0 fun i j => .int (Builtin.bitAnd i j)) (nat i) (nat j) (nat (i &&& j)) := by
  have h := r2_I0 (g := fun i j => Builtin.bitAnd i j) (i := (i : Int)) (j := (j : Int))
  rw [show Builtin.bitAnd (i : Int) (j : Int) = ((i &&& j : Nat) : Int) by rw [bitAnd_pp (by omega) (by omega)]; rfl] at h
  exact h
theorem r2_orN {i j : Nat} : R2D (rI0 fun i j => .int (Builtin.bitOr i j)) (nat i) (nat j) (nat (i ||| j)) := by
  have h := r2_I0 (g := fun i j => Builtin.bitOr i j) (i := (i : Int)) (j := (j : Int))
  rw [show Builtin.bitOr (i : Int) (j : Int) = ((i ||| j : Nat) : Int) by rw [Bits.bitOr_pp (by omega) (by omega)]; rfl] at h
  exact h
theorem sum_cast : ∀ l : List Nat, (l.map fun (n : Nat) => (n : Int)).sum = ((l.sum : Nat) : Int)
  | [] => rfl
  | n :: l => by
    rw [List.map_cons, List.sum_cons, sum_cast l, List.sum_cons]
    omega
theorem rc_sumN {l : List Nat} : RCD (rSum K) [.list (l.map nat)] (nat l.sum) := by
  have h := rc_sum (K := K) (ns := l.map fun (n : Nat) => (n : Int))
  rw [sum_cast, ← nat_map] at h
  exact h
/-- len of a list, by what its items stand for -/
theorem rc_lenM {α : Type} {l : List α} {f : α → PyData} : RCD (fun xs H Q => ∃ p ys, xs = [.ref p] ∧ (SqL K H p ys ∨ SqT K H p ys) ∧ Q (.int ys.length) H) [.list (l.map f)] (nat l.length) := by
  have h := rc_lenL (K := K) (ds := l.map f)
  rw [List.length_map] at h
  exact h
theorem rc_lenLot {l : List Nat} : RCD (fun xs H Q => ∃ p ys, xs = [.ref p] ∧ (SqL K H p ys ∨ SqT K H p ys) ∧ Q (.int ys.length) H) [lotD l] (nat l.length) := by
  have h := rc_lenT (K := K) (ds := l.map nat)
  rw [List.length_map] at h
  exact h
/-- sorted(xs), numbers of which the order is known -/
theorem rl_sortedN {l m : List Nat} (hp : m.Perm l) (hs : m.Pairwise (· ≤ ·)) : RCL (rSortedI K) [.list (l.map nat)] (m.map nat) := fun H vs Q r q => by
  obtain ⟨x, rfl, r1⟩ := r.isOne
  obtain ⟨a, xs, rfl, h1, h2⟩ := r1.isLst
  rw [nat_map] at h2
  rw [h2.ints] at h1
  refine ⟨a, _, rfl, SqL.of h1, fun ns' p hp2 hs2 hn => ?_⟩
  have e : ns' = m.map fun (n : Nat) => (n : Int) := by
    refine List.Perm.eq_of_pairwise (le := (· ≤ ·)) (fun x y _ _ h1 h2 => by omega) hs2 ?_ (hp2.trans (hp.map _).symm)
    exact List.pairwise_map.mpr (hs.imp fun h => by omega)
  subst e
  refine q p _ _ hn (same_new hn) upd_same ?_
  rw [nat_map]
  exact rpa_ints _
end
end Pz
namespace Kp
open PySem PySem.Spec PyProof.Rows L2 Pz
abbrev sHas : Stmt := top 29
abbrev sLotOf : Stmt := top 30
abbrev sFull : Stmt := top 31
abbrev sOnes : Stmt := top 32
abbrev sGreatest : Stmt := top 33
abbrev sPartings : Stmt := top 36
abbrev sSetOf : Stmt := top 37
abbrev sAtomOf : Stmt := top 38
abbrev sTwo : Stmt := top 39
abbrev sTurned : Stmt := top 44
theorem scHas : FnScope ["_law_mark", "_law_house", "_law_k"] ["_law_mark", "_law_house"] (defScope sHas) := ⟨rfl, rfl, rfl, by decide +kernel, rfl, by decide +kernel, by decide +kernel⟩
theorem scLotOf : FnScope ["_law_n", "_law_mark", "_law_house"] ["_law_n", "_law_mark"] (defScope sLotOf) := ⟨rfl, rfl, rfl, by decide +kernel, rfl, by decide +kernel, by decide +kernel⟩
theorem scFull : FnScope ["_law_n", "_law_full_here", "_law_house"] ["_law_n"] (defScope sFull) := ⟨rfl, rfl, rfl, by decide +kernel, rfl, by decide +kernel, by decide +kernel⟩
theorem scOnes : FnScope ["_law_n", "_law_mark", "_law_house"] ["_law_n", "_law_mark"] (defScope sOnes) := ⟨rfl, rfl, rfl, by decide +kernel, rfl, by decide +kernel, by decide +kernel⟩
theorem scGreatest : FnScope ["_law_marks", "_law_tops", "_law_mark", "_law_above", "_law_other"] ["_law_marks"] (defScope sGreatest) := ⟨rfl, rfl, rfl, by decide +kernel, rfl, by decide +kernel, by decide +kernel⟩
theorem scPartings : FnScope ["_law_n", "_law_tops", "_law_full_here", "_law_feared", "_law_mark", "_law_high"] ["_law_n", "_law_tops"] (defScope sPartings) := ⟨rfl, rfl, rfl, by decide +kernel, rfl, by decide +kernel, by decide +kernel⟩
theorem scSetOf : FnScope ["_law_n", "_law_marks", "_law_mark"] ["_law_n", "_law_marks"] (defScope sSetOf) := ⟨rfl, rfl, rfl, by decide +kernel, rfl, by decide +kernel, by decide +kernel⟩
theorem scAtomOf : FnScope ["_law_n", "_law_parted", "_law_house", "_law_mates", "_law_mate", "_law_apart", "_law_mark"] ["_law_n", "_law_parted", "_law_house"] (defScope sAtomOf) := ⟨rfl, rfl, rfl, by decide +kernel, rfl, by decide +kernel, by decide +kernel⟩
theorem scTwo : FnScope ["_law_n", "_law_tops", "_law_full_here", "_law_high", "_law_low"] ["_law_n", "_law_tops"] (defScope sTwo) := ⟨rfl, rfl, rfl, by decide +kernel, rfl, by decide +kernel, by decide +kernel⟩
theorem scTurned : FnScope ["_law_n", "_law_lot", "_law_house"] ["_law_n", "_law_lot"] (defScope sTurned) := ⟨rfl, rfl, rfl, by decide +kernel, rfl, by decide +kernel, by decide +kernel⟩
def hasN (m h : Nat) : Nat := m / 2 ^ h % 2
def lotOf (n m : Nat) : List Nat := (List.range n).filter fun h => hasN m h == 1
def fullN (n : Nat) : Nat := 2 ^ n - 1
def onesN (n m : Nat) : Nat := ((List.range n).map fun h => hasN m h).sum
def aboveM (marks : List Nat) (m : Nat) : List Nat := marks.filter fun o => (o &&& m) == m && !(o == m)
def topStep (marks acc : List Nat) (m : Nat) : List Nat := if ((aboveM marks m).length == 0 && !decide (m ∈ acc)) = true then acc ++ [m] else acc
def topsN (marks : List Nat) (i : Nat) : List Nat := (marks.take i).foldl (topStep marks) []
def topsM (marks : List Nat) : List Nat := marks.foldl (topStep marks) []
def cntM (tops : List Nat) (m : Nat) : Nat := (tops.filter fun hi => (m ||| hi) == hi).length
def partsM (n : Nat) (tops : List Nat) : List Nat := (List.range (2 ^ n)).filter fun m => decide (0 < cntM tops m) && decide (0 < cntM tops (fullN n - m))
def setM (n : Nat) (marks : List Nat) : List (List Nat) := srtL (marks.map (lotOf n))
def mateB (parted : List Nat) (h m : Nat) : Bool := (parted.filter fun mk => !(hasN mk h == hasN mk m)).length == 0
def mateOf (n : Nat) (parted : List Nat) (h : Nat) : List Nat := (List.range n).filter (mateB parted h)
def twoB (n : Nat) (tops : List Nat) : Bool := decide (0 < (tops.filter fun hi => decide (0 < (tops.filter fun lo => (hi ||| lo) == fullN n).length)).length)
def revL (n : Nat) (l : List Nat) : List Nat := (l.map fun h => n - 1 - h).reverse
def rHas (ds : List PyData) (d : PyData) : Prop := ∃ m h : Nat, h ≤ 100 ∧ ds = [nat m, nat h] ∧ d = nat (hasN m h)
def rLotOf (ds : List PyData) (d : PyData) : Prop := ∃ n m : Nat, n ≤ 6 ∧ ds = [nat n, nat m] ∧ d = lotD (lotOf n m)
def rFull (ds : List PyData) (d : PyData) : Prop := ∃ n : Nat, n ≤ 6 ∧ ds = [nat n] ∧ d = nat (fullN n)
def rOnes (ds : List PyData) (d : PyData) : Prop := ∃ n m : Nat, n ≤ 6 ∧ ds = [nat n, nat m] ∧ d = nat (onesN n m)
def rGreatest (ds es : List PyData) : Prop := ∃ marks : List Nat, marks.length ≤ 100 ∧ ds = [marksD marks] ∧ es = (topsM marks).map nat
def rPartings (ds es : List PyData) : Prop := ∃ (n : Nat) (tops : List Nat), n ≤ 6 ∧ tops.length ≤ 100 ∧ ds = [nat n, marksD tops] ∧ es = (partsM n tops).map nat
def rSetOf (ds : List PyData) (d : PyData) : Prop := ∃ (n : Nat) (marks : List Nat), n ≤ 6 ∧ marks.length ≤ 100 ∧ ds = [nat n, marksD marks] ∧ d = lotsD (setM n marks)
def rAtomOf (ds : List PyData) (d : PyData) : Prop := ∃ (n : Nat) (parted : List Nat) (h : Nat), n ≤ 6 ∧ h ≤ 100 ∧ parted.length ≤ 100 ∧ ds = [nat n, marksD parted, nat h] ∧ d = lotD (mateOf n parted h)
def rTwo (ds : List PyData) (d : PyData) : Prop := ∃ (n : Nat) (tops : List Nat), n ≤ 6 ∧ tops.length ≤ 100 ∧ ds = [nat n, marksD tops] ∧ d = .bool (twoB n tops)
def rTurned (ds : List PyData) (d : PyData) : Prop := ∃ (n : Nat) (l : List Nat), l.length ≤ 100 ∧ (∀ h ∈ l, h < n) ∧ l.Pairwise (· < ·) ∧ ds = [nat n, lotD l] ∧ d = lotD (revL n l)
theorem topsN_len (marks : List Nat) : ∀ (l acc : List Nat), (l.foldl (topStep marks) acc).length ≤ acc.length + l.length
  | [], acc => Nat.le_refl _
  | m :: l, acc => by
    have h := topsN_len marks l (topStep marks acc m)
    have h2 : (topStep marks acc m).length ≤ acc.length + 1 := by
      unfold topStep
      split
      · rw [List.length_append]; exact Nat.le_refl _
      · omega
    rw [List.foldl_cons, List.length_cons]
    omega
section
variable {P : Program} {w : World} {K : PySem.W.Frag} {mg : Str → Option Value} {base : Heap} {C : Addr}
theorem ok_has (B : Bi mg) (F : Has K mg "_law_has" sHas ["_law_mark", "_law_house"]) : Cal P w K mg base CX0 1 "_law_has" ["_law_mark", "_law_house"] (spD rHas) := by
  refine okD F scHas (fun ds d ⟨_, _, _, h, _⟩ => by rw [h]; rfl) fun f cdv A outer s H E ds d hr hR => ?_
  obtain ⟨m, h, hh, rfl, rfl⟩ := hR
  refine hs_seq (M := At H [some (nat (m / 2 ^ h)), some (nat h), none]) ?_ (hs_one (hs_ret (de_op op_mod (de_callTy call_int1 B.int (by decide +kernel) (da_one (dv 0)) rc_int) (de_k 2) (r2_modN (by decide)))))
  refine hs_forT (k := 2) (J := fun i => [some (nat (m / 2 ^ i)), some (nat h), none]) (xs := List.range h) (enc := nat) PassesOwn.never rfl (di_r1 B.range (dv 1) (by omega)) (pg_name (i := 2) scHas.nd rfl (.inl rfl)) (fgt_of (by simp [fgtB, st0])) (fun H1 e1 i a hi => ?_) (fun σ H' q => by rw [List.length_range] at q; exact q)
  exact hs_one (hs_setZ (i := 0) (d := nat (m / 2 ^ (i + 1))) scHas.nd (de_of (de_op op_fdiv (dv 0) (de_k 2) (r2_divN (by decide) (by decide))) (by rw [Nat.div_div_eq_div_mul, Nat.pow_succ])) (fgt_of (by simp [fgtB])) fun _ _ q => q)
theorem ok_lotOf (B : Bi mg) (F : Has K mg "_law_lot_of" sLotOf ["_law_n", "_law_mark"]) (C1 : Cal P w K mg base CX0 1 "_law_has" ["_law_mark", "_law_house"] (spD rHas)) : Cal P w K mg base CX0 2 "_law_lot_of" ["_law_n", "_law_mark"] (spD rLotOf) := by
  refine okD F scLotOf (fun ds d ⟨_, _, _, h, _⟩ => by rw [h]; rfl) fun f cdv A outer s H E ds d hr hR => ?_
  obtain ⟨n, m, hn, rfl, rfl⟩ := hR
  exact hs_one (hs_ret (de_callTy call_tuple_of B.tuple (by decide +kernel) (da_one (de_dl (dl_lc (xs := List.range n) (enc := nat) (i := 2) (fun h => hasN m h == 1) nat rfl scLotOf.nd (di_r1 B.range (dv 0) (by omega))
    (fun _ _ _ _ _ h hh => dts_one (dt_cmp op_eq (de_call C1 hr (by decide) (da_cons (dv 1) (da_one (dv 2))) ⟨m, h, by have := List.mem_range.mp hh; omega, rfl, rfl⟩) (de_k 1) r2_eqN)) (fun _ _ _ _ _ h _ _ => dv 2) (fun _ _ _ => imm_nat _) (by simp; omega)))) rc_tup))
theorem ok_full (B : Bi mg) (F : Has K mg "_law_full" sFull ["_law_n"]) : Cal P w K mg base CX0 1 "_law_full" ["_law_n"] (spD rFull) := by
  refine okD F scFull (fun ds d ⟨_, _, h, _⟩ => by rw [h]; rfl) fun f cdv A outer s H E ds d hr hR => ?_
  obtain ⟨n, hn, rfl, rfl⟩ := hR
  refine hs_seq (hs_set (i := 1) scFull.nd (de_k 1)) ?_
  refine hs_seq (M := At H [some (nat n), some (nat (2 ^ n)), none]) ?_ (hs_one (hs_ret (de_op op_sub (dv 1) (de_k 1) (r2_subN Nat.one_le_two_pow))))
  refine hs_forT (k := 2) (J := fun i => [some (nat n), some (nat (2 ^ i)), none]) (xs := List.range n) (enc := nat) PassesOwn.never rfl (di_r1 B.range (dv 0) (by omega)) (pg_name (i := 2) scFull.nd rfl (.inl rfl)) (fgt_of (by simp [fgtB, st0])) (fun H1 e1 i a hi => ?_) (fun σ H' q => by rw [List.length_range] at q; exact q)
  exact hs_one (hs_setZ (i := 1) (d := nat (2 ^ (i + 1))) scFull.nd (de_of (de_op op_mul (dv 1) (de_k 2) (r2_mulN (by decide))) (by rw [Nat.pow_succ])) (fgt_of (by simp [fgtB])) fun _ _ q => q)
theorem ok_ones (B : Bi mg) (F : Has K mg "_law_ones" sOnes ["_law_n", "_law_mark"]) (C1 : Cal P w K mg base CX0 1 "_law_has" ["_law_mark", "_law_house"] (spD rHas)) : Cal P w K mg base CX0 2 "_law_ones" ["_law_n", "_law_mark"] (spD rOnes) := by
  refine okD F scOnes (fun ds d ⟨_, _, _, h, _⟩ => by rw [h]; rfl) fun f cdv A outer s H E ds d hr hR => ?_
  obtain ⟨n, m, hn, rfl, rfl⟩ := hR
  refine hs_one (hs_ret (de_callB (cr_sum rfl) B.sum (by decide +kernel) (da_one (de_of (d := .list (((List.range n).map fun h => hasN m h).map nat)) (de_dl (dl_map (xs := List.range n) (enc := nat) (i := 2) (fun h => nat (hasN m h)) rfl scOnes.nd (di_r1 B.range (dv 0) (by omega))
    (fun _ _ _ _ _ h hh => de_call C1 hr (by decide) (da_cons (dv 1) (da_one (dv 2))) ⟨m, h, by have := List.mem_range.mp hh; omega, rfl, rfl⟩) (fun _ _ => imm_nat _) (by simp; omega))) (by rw [List.map_map]; rfl))) rc_sumN))
theorem ok_greatest (B : Bi mg) (F : Has K mg "_law_greatest" sGreatest ["_law_marks"]) : Cal P w K mg base CX0 1 "_law_greatest" ["_law_marks"] (spL rGreatest) := by
  refine okL F scGreatest (fun ds d ⟨_, _, h, _⟩ => by rw [h]; rfl) fun f cdv A outer s H E ds d hr hR => ?_
  obtain ⟨marks, hl, rfl, rfl⟩ := hR
  refine hs_seq (hs_newM (i := 1) scGreatest.nd (dl_lst da_nil) rfl (by simp [st0])) ?_
  refine hs_seq (M := AtM H 1 ((topsM marks).map nat) [some (marksD marks), none, none, none, none]) ?_ (hs_one (hs_retM (k := 1)))
  refine hs_forML (i := 2) (k := 1) (yi := 0) (xs := marks) (enc := nat) (E := fun i => (topsN marks i).map nat) (J := fun _ => [some (marksD marks), none, none, none, none]) (F := fun _ => True) PassesOwn.never rfl rfl (pg_name (i := 2) scGreatest.nd rfl (by first | exact .inl rfl | exact .inr rfl)) (fgt_of (by simp [fgtB, st0])) trivial (by decide) (fun H1 e1 j m hj _ => ?_) (fun _ σ H' q => by
    have e : topsN marks marks.length = topsM marks := by unfold topsN topsM; rw [List.take_length]
    rw [e] at q
    exact q)
  have e : topsN marks (j + 1) = topStep marks (topsN marks j) m := by
    unfold topsN
    rw [take_more hj, List.foldl_append]
    rfl
  have tl : (topsN marks j).length ≤ 100 := by
    have := topsN_len marks (marks.take j) []
    rw [List.length_take] at this
    have h0 : ([] : List Nat).length = 0 := rfl
    unfold topsN
    omega
  refine hs_seq (hs_lcM (i := 3) (pl_lc (xs := marks) (enc := nat) (i := 4) (j := 3) (fun o => (o &&& m) == m && !(o == m)) nat rfl scGreatest.nd (di_list (dv 0))
    (fun _ _ _ _ _ o _ => dts_one (dt_w (dw_and (dt_cmp op_eq (de_op op_and (dv 4) (dv 2) r2_andN) (dv 2) r2_eqN) fun _ => dw_and1 (dt_cmp op_ne (dv 4) (dv 2) r2_neN)))) (fun _ _ _ _ _ o _ _ => dv 4) (fun _ _ _ => imm_nat _) (by omega)) (immA_nats _)) ?_
  refine hs_one (hs_ifG (b := (aboveM marks m).length == 0 && !decide (m ∈ topsN marks j)) (dt_w (dw_and (dt_cmp op_eq (de_callB call_len_seq B.len (by decide +kernel) (da_one (dv 3)) rc_lenM) (de_k 0) r2_eqN) fun _ => dw_and1 (dt_cmp op_notIn_seq (dv 2) (dv 1) r2_niMarks))) (fun _ _ q => q.sat) atm_stab (fun h => ?_) (fun h => ?_))
  · refine hs_one (hs_appZ (d := nat m) (dv 2) (imm_nat _) (by simp; omega) (fun σ H' q => ?_)
      (T := fun he => pe_bm PySem.F.plainAttrs_list PySem.F.slot_list_append PySem.F.type_list_append mt_append (pv 1) (pa_cons he pa_nil)))
    refine ⟨trivial, ?_⟩
    have e2 : topStep marks (topsN marks j) m = topsN marks j ++ [m] := by unfold topStep; rw [if_pos h]
    rw [e, e2, List.map_append]
    exact q.fgt (fgt_of (by simp [fgtB]))
  · refine hs_nil fun σ H' q => ⟨trivial, ?_⟩
    have e2 : topStep marks (topsN marks j) m = topsN marks j := by unfold topStep; rw [if_neg (by rw [h]; exact Bool.false_ne_true)]
    rw [e, e2]
    exact q.fgt (fgt_of (by simp [fgtB]))
theorem full_succ (n : Nat) : fullN n + 1 = 2 ^ n := by
  have : 1 ≤ 2 ^ n := Nat.one_le_two_pow
  unfold fullN
  omega
theorem ok_partings (B : Bi mg) (F : Has K mg "_law_partings" sPartings ["_law_n", "_law_tops"]) (C1 : Cal P w K mg base CX0 1 "_law_full" ["_law_n"] (spD rFull)) : Cal P w K mg base CX0 2 "_law_partings" ["_law_n", "_law_tops"] (spL rPartings) := by
  refine okL F scPartings (fun ds d ⟨_, _, _, _, h, _⟩ => by rw [h]; rfl) fun f cdv A outer s H E ds d hr hR => ?_
  obtain ⟨n, tops, hn, hl, rfl, rfl⟩ := hR
  have h2n := p26 hn
  have hful := full_succ n
  refine hs_seq (hs_set (i := 2) scPartings.nd (de_call C1 hr (by decide) (da_one (dv 0)) ⟨n, hn, rfl, rfl⟩)) ?_
  refine hs_seq (hs_newM (i := 3) scPartings.nd (dl_lst da_nil) rfl (by simp [st0])) ?_
  refine hs_seq (M := AtM H 3 ((List.range (2 ^ n)).map fun m => nat (cntM tops m)) [some (nat n), some (marksD tops), some (nat (fullN n)), none, none, none]) ?_ (hss_pre (hs_one (hs_retL (ρ := [some (nat n), some (marksD tops), some (nat (fullN n)), some (.list ((List.range (2 ^ n)).map fun m => nat (cntM tops m))), none, none])
    (dl_lc (xs := List.range (2 ^ n)) (enc := nat) (i := 4) (fun m => decide (0 < cntM tops m) && decide (0 < cntM tops (fullN n - m))) nat rfl scPartings.nd (di_r1 B.range (de_of (de_op op_add (dv 2) (de_k 1) r2_addN) (by rw [hful])) (by omega))
      (fun _ _ _ _ _ m hm => dts_one (dt_w (dw_and (dt_cmp op_gt (de_ix ix_list (dv 3) (dv 4) (r2_ixL (k := m) rfl ?_)) (de_k 0) r2_gtN) fun _ => dw_and1 (dt_cmp op_gt (de_ix ix_list (dv 3) (de_op op_sub (dv 2) (dv 4) (r2_subN ?_)) (r2_ixL (k := fullN n - m) rfl ?_)) (de_k 0) r2_gtN)))) (fun _ _ _ _ _ m _ _ => dv 4) (fun _ _ _ => imm_nat _) (by simp; omega)))) fun σ H' q => q.at_)
  rotate_left
  · rw [List.getElem?_map, List.getElem?_range (List.mem_range.mp hm)] <;> rfl
  · have := List.mem_range.mp hm; omega
  · rw [List.getElem?_map, List.getElem?_range (by omega)] <;> rfl
  refine hs_forMN (i := 4) (k := 3) (n := 2 ^ n) (E := fun i => (List.range i).map fun m => nat (cntM tops m)) (J := fun _ => [some (nat n), some (marksD tops), some (nat (fullN n)), none, none, none]) (F := fun _ => True) PassesOwn.never rfl (dr_1 B.range (de_of (de_op op_add (dv 2) (de_k 1) r2_addN) (by rw [hful]; rfl)) (by omega)) (pg_name (i := 4) scPartings.nd rfl (by first | exact .inl rfl | exact .inr rfl)) (fgt_of (by simp [fgtB, st0])) trivial (by decide)
    (fun j hj _ => ?_) (fun _ σ H' q => q)
  refine hs_one (hs_appZ (d := nat (cntM tops j)) (de_callB call_len_seq B.len (by decide +kernel) (da_one (de_dl (dl_lc (xs := tops) (enc := nat) (i := 5) (fun hi => (j ||| hi) == hi) nat rfl scPartings.nd (di_list (dv 1)) (fun _ _ _ _ _ hi _ => dts_one (dt_cmp op_eq (de_op op_or (dv 4) (dv 5) r2_orN) (dv 5) r2_eqN)) (fun _ _ _ _ _ hi _ _ => dv 5) (fun _ _ _ => imm_nat _) (by omega)))) rc_lenM) (imm_nat _) (by simp; omega) (fun σ H' q => ?_)
    (T := fun he => pe_bm PySem.F.plainAttrs_list PySem.F.slot_list_append PySem.F.type_list_append mt_append (pv 3) (pa_cons he pa_nil)))
  refine ⟨trivial, ?_⟩
  rw [List.range_succ, List.map_append]
  exact q.fgt (fgt_of (by simp [fgtB]))
theorem ok_setOf (B : Bi mg) (F : Has K mg "_law_set_of" sSetOf ["_law_n", "_law_marks"]) (C1 : Cal P w K mg base CX0 2 "_law_lot_of" ["_law_n", "_law_mark"] (spD rLotOf)) : Cal P w K mg base CX0 3 "_law_set_of" ["_law_n", "_law_marks"] (spD rSetOf) := by
  refine okD F scSetOf (fun ds d ⟨_, _, _, _, h, _⟩ => by rw [h]; rfl) fun f cdv A outer s H E ds d hr hR => ?_
  obtain ⟨n, marks, hn, hl, rfl, rfl⟩ := hR
  exact hs_one (hs_ret (de_callTy call_tuple_of B.tuple (by decide +kernel) (da_one (de_dl (dl_callB (cr_sortedT hr.units) B.sorted (by decide +kernel) (da_one (de_of (d := .list ((marks.map (lotOf n)).map lotD)) (de_dl (dl_map (xs := marks) (enc := nat) (i := 2) (fun m => lotD (lotOf n m)) rfl scSetOf.nd (di_list (dv 1))
    (fun _ _ _ _ _ m _ => de_call C1 hr (by decide) (da_cons (dv 0) (da_one (dv 2))) ⟨n, m, hn, rfl, rfl⟩) (fun _ _ => imm_lot _) (by omega))) (by rw [List.map_map]; rfl))) rl_sorted))) rc_tup))
theorem ok_atomOf (B : Bi mg) (F : Has K mg "_law_atom_of" sAtomOf ["_law_n", "_law_parted", "_law_house"]) (C1 : Cal P w K mg base CX0 1 "_law_has" ["_law_mark", "_law_house"] (spD rHas)) : Cal P w K mg base CX0 2 "_law_atom_of" ["_law_n", "_law_parted", "_law_house"] (spD rAtomOf) := by
  refine okD F scAtomOf (fun ds d ⟨_, _, _, _, _, _, h, _⟩ => by rw [h]; rfl) fun f cdv A outer s H E ds d hr hR => ?_
  obtain ⟨n, parted, h, hn, hh, hl, rfl, rfl⟩ := hR
  refine hs_seq (hs_newM (i := 3) scAtomOf.nd (dl_lst da_nil) rfl (by simp [st0])) ?_
  refine hs_seq (M := AtM H 3 ((mateOf n parted h).map nat) [some (nat n), some (marksD parted), some (nat h), none, none, none, none]) ?_ (hss_pre (hs_one (hs_ret (ρ := [some (nat n), some (marksD parted), some (nat h), some (.list ((mateOf n parted h).map nat)), none, none, none]) (de_callTy call_tuple_of B.tuple (by decide +kernel) (da_one (dv 3)) rc_tup))) fun σ H' q => q.at_)
  refine hs_forMN (i := 4) (k := 3) (n := n) (E := fun i => ((List.range i).filter (mateB parted h)).map nat) (J := fun _ => [some (nat n), some (marksD parted), some (nat h), none, none, none, none]) (F := fun _ => True) PassesOwn.never rfl (dr_1 B.range (dv 0) (by omega)) (pg_name (i := 4) scAtomOf.nd rfl (by first | exact .inl rfl | exact .inr rfl)) (fgt_of (by simp [fgtB, st0])) trivial (by decide)
    (fun j hj _ => ?_) (fun _ σ H' q => q)
  refine hs_seq (hs_lcM (i := 5) (pl_lc (xs := parted) (enc := nat) (i := 6) (j := 5) (fun mk => !(hasN mk h == hasN mk j)) nat rfl scAtomOf.nd (di_list (dv 1))
    (fun _ _ _ _ _ mk _ => dts_one (dt_cmp op_ne (de_call C1 hr (by decide) (da_cons (dv 6) (da_one (dv 2))) ⟨mk, h, hh, rfl, rfl⟩) (de_call C1 hr (by decide) (da_cons (dv 6) (da_one (dv 4))) ⟨mk, j, by omega, rfl, rfl⟩) r2_neN)) (fun _ _ _ _ _ o _ _ => dv 6) (fun _ _ _ => imm_nat _) (by omega)) (immA_nats _)) ?_
  refine hs_one (hs_ifG (b := mateB parted h j) (dt_cmp op_eq (de_callB call_len_seq B.len (by decide +kernel) (da_one (dv 5)) rc_lenM) (de_k 0) r2_eqN) (fun _ _ q => q.sat) atm_stab (fun hb => ?_) (fun hb => ?_))
  · refine hs_one (hs_appZ (d := nat j) (dv 4) (imm_nat _) ?_ (fun σ H' q => ?_)
      (T := fun he => pe_bm PySem.F.plainAttrs_list PySem.F.slot_list_append PySem.F.type_list_append mt_append (pv 3) (pa_cons he pa_nil)))
    · have := List.length_filter_le (mateB parted h) (List.range j)
      rw [List.length_map]
      rw [List.length_range] at this
      omega
    · refine ⟨trivial, ?_⟩
      rw [List.range_succ, List.filter_append, show [j].filter (mateB parted h) = [j] by simp [hb], List.map_append]
      exact q.fgt (fgt_of (by simp [fgtB]))
  · refine hs_nil fun σ H' q => ⟨trivial, ?_⟩
    rw [List.range_succ, List.filter_append, show [j].filter (mateB parted h) = [] by simp [hb], List.append_nil]
    exact q.fgt (fgt_of (by simp [fgtB]))
theorem ok_two (B : Bi mg) (F : Has K mg "_law_two_are_all" sTwo ["_law_n", "_law_tops"]) (C1 : Cal P w K mg base CX0 1 "_law_full" ["_law_n"] (spD rFull)) : Cal P w K mg base CX0 2 "_law_two_are_all" ["_law_n", "_law_tops"] (spD rTwo) := by
  refine okD F scTwo (fun ds d ⟨_, _, _, _, h, _⟩ => by rw [h]; rfl) fun f cdv A outer s H E ds d hr hR => ?_
  obtain ⟨n, tops, hn, hl, rfl, rfl⟩ := hR
  refine hs_seq (hs_set (i := 2) scTwo.nd (de_call C1 hr (by decide) (da_one (dv 0)) ⟨n, hn, rfl, rfl⟩)) ?_
  exact hs_one (hs_ret (de_cmp op_gt (de_callB call_len_seq B.len (by decide +kernel) (da_one (de_dl (dl_lc (xs := tops) (enc := nat) (i := 3) (fun hi => decide (0 < (tops.filter fun lo => (hi ||| lo) == fullN n).length)) nat rfl scTwo.nd (di_list (dv 1))
    (fun _ _ _ _ _ hi _ => dts_one (dt_cmp op_gt (de_callB call_len_seq B.len (by decide +kernel) (da_one (de_dl (dl_lc (xs := tops) (enc := nat) (i := 4) (fun lo => (hi ||| lo) == fullN n) nat rfl scTwo.nd (di_list (dv 1)) (fun _ _ _ _ _ lo _ => dts_one (dt_cmp op_eq (de_op op_or (dv 3) (dv 4) r2_orN) (dv 2) r2_eqN)) (fun _ _ _ _ _ lo _ _ => dv 4) (fun _ _ _ => imm_nat _) (by omega)))) rc_lenM) (de_k 0) r2_gtN))
    (fun _ _ _ _ _ hi _ _ => dv 3) (fun _ _ _ => imm_nat _) (by omega)))) rc_lenM) (de_k 0) r2_gtN))
theorem rev_perm (n : Nat) (l : List Nat) : (revL n l).Perm (l.map fun h => n - 1 - h) := List.reverse_perm _
theorem rev_sorted {n : Nat} {l : List Nat} (hb : ∀ h ∈ l, h < n) (ha : l.Pairwise (· < ·)) : (revL n l).Pairwise (· < ·) := by
  unfold revL
  rw [List.pairwise_reverse, List.pairwise_map]
  refine ha.imp_of_mem fun {a b} ma mb h => ?_
  have := hb a ma
  have := hb b mb
  omega
theorem ok_turned (B : Bi mg) (F : Has K mg "_law_turned" sTurned ["_law_n", "_law_lot"]) : Cal P w K mg base CX0 1 "_law_turned" ["_law_n", "_law_lot"] (spD rTurned) := by
  refine okD F scTurned (fun ds d ⟨_, _, _, _, _, h, _⟩ => by rw [h]; rfl) fun f cdv A outer s H E ds d hr hR => ?_
  obtain ⟨n, l, hl, hb, ha, rfl, rfl⟩ := hR
  exact hs_one (hs_ret (de_callTy call_tuple_of B.tuple (by decide +kernel) (da_one (de_dl (dl_callB cr_sortedI B.sorted (by decide +kernel) (da_one (de_of (d := .list ((l.map fun h => n - 1 - h).map nat)) (de_dl (dl_map (xs := l) (enc := nat) (i := 2) (fun h => nat (n - 1 - h)) rfl scTurned.nd (di_tup (dv 1))
    (fun _ _ _ _ _ h hh => de_op op_sub (de_op op_sub (dv 0) (de_k 1) (r2_subN (by have := hb h hh; omega))) (dv 2) (r2_subN (by have := hb h hh; omega))) (fun _ _ => imm_nat _) (by omega))) (by rw [List.map_map]; rfl))) (rl_sortedN (rev_perm n l) ((rev_sorted hb ha).imp fun h => Nat.le_of_lt h))))) rc_tup))
end
end Kp

set_option Elab.async false
set_option linter.all false
set_option maxRecDepth 100000
set_option maxHeartbeats 4000000
namespace Kp
open PySem PySem.Spec PyProof.Rows L2 Pz
def kvS (c : Addr) (t : Int) : List (Key × L2.V) := [(.inr "cells", .ref c), (.inr "turn", .int t)]
def srcO (P : Program) (w : World) (p c : Addr) : HO := .ext fun h => ∃ t : Int, ObjOk P w (fun _ => none) h p (.dK (kvS c t))
def celO (P : Program) (w : World) (c : Addr) : HO := .ext fun h => ∃ ns : List Int, ObjOk P w (fun _ => none) h c (.lst (ns.map V.int))
structure SrcH (P : Program) (w : World) (p c : Addr) (H : Hp) : Prop where
  ne : p ≠ c
  src : H p = some (srcO P w p c)
  cel : H c = some (celO P w c)
theorem SrcH.mono {P : Program} {w : World} {p c : Addr} {H H' : Hp} (s : SrcH P w p c H) (e : Same H H') : SrcH P w p c H' := ⟨s.ne, e _ _ s.src, e _ _ s.cel⟩
theorem src_own {P : Program} {w : World} {p c x : Addr} : srcO P w p c ≠ .own x := fun z => by unfold srcO at z; cases z
theorem src_tup {P : Program} {w : World} {p c : Addr} {xs : List L2.V} : srcO P w p c ≠ .tup xs := fun z => by unfold srcO at z; cases z
theorem cel_own {P : Program} {w : World} {c x : Addr} : celO P w c ≠ .own x := fun z => by unfold celO at z; cases z
theorem cel_tup {P : Program} {w : World} {c : Addr} {xs : List L2.V} : celO P w c ≠ .tup xs := fun z => by unfold celO at z; cases z
def upd2 (H : Hp) (p c : Addr) (a b : HO) : Hp := upd (upd H p a) c b
theorem upd2_p {H : Hp} {p c : Addr} {a b : HO} (h : p ≠ c) : upd2 H p c a b p = some a := by unfold upd2; rw [upd_ne h, upd_same]
theorem upd2_c {H : Hp} {p c : Addr} {a b : HO} : upd2 H p c a b c = some b := upd_same
theorem upd2_ne {H : Hp} {p c x : Addr} {a b : HO} (h1 : x ≠ p) (h2 : x ≠ c) : upd2 H p c a b x = H x := by unfold upd2; rw [upd_ne h2, upd_ne h1]
section
variable {P : Program} {w : World} {H : Hp} {h : Heap} {p c : Addr} {t : Int} {ns : List Int}
/-- two places told anew -/
theorem retold (ok : HOk P w H h) (hne : p ≠ c) {a b a' b' : HO} (ha : H p = some a) (hb : H c = some b) (na : ∀ x, a ≠ .own x) (ta : ∀ x, a ≠ .tup x) (nb : ∀ x, b ≠ .own x) (tb : ∀ x, b ≠ .tup x)
    (oa : ObjOk P w (upd2 H p c a' b') h p a') (ob : ObjOk P w (upd2 H p c a' b') h c b') : HOk P w (upd2 H p c a' b') h := fun x o q => by
  by_cases hc : x = c
  · subst hc; rw [upd2_c] at q; cases q; exact ob
  · by_cases hp : x = p
    · subst hp; rw [upd2_p hne] at q; cases q; exact oa
    · rw [upd2_ne hp hc] at q
      refine (ok x o q).stay (fun _ _ _ z => z) (fun y hy => ?_) fun y xs hy => ?_
      · rw [upd2_ne (fun z => by rw [z, ha] at hy; exact na _ (Option.some.inj hy)) fun z => by rw [z, hb] at hy; exact nb _ (Option.some.inj hy)]; exact hy
      · rw [upd2_ne (fun z => by rw [z, ha] at hy; exact ta _ (Option.some.inj hy)) fun z => by rw [z, hb] at hy; exact tb _ (Option.some.inj hy)]; exact hy
theorem openH (ok : HOk P w H h) (s : SrcH P w p c H) : ∃ (t : Int) (ns : List Int), HOk P w (upd2 H p c (.dK (kvS c t)) (.lst (ns.map V.int))) h := by
  obtain ⟨⟨t, h1⟩, _⟩ := (show ObjOk P w H h p (srcO P w p c) from ok p _ s.src)
  obtain ⟨⟨ns, h2⟩, _⟩ := (show ObjOk P w H h c (celO P w c) from ok c _ s.cel)
  exact ⟨t, ns, retold ok s.ne s.src s.cel (fun _ => src_own) (fun _ => src_tup) (fun _ => cel_own) (fun _ => cel_tup) (h1.stay (fun _ _ _ z => z) (fun _ z => by cases z) fun _ _ z => by cases z) (h2.stay (fun _ _ _ z => z) (fun _ z => by cases z) fun _ _ z => by cases z)⟩
theorem closeH (ok : HOk P w H h) (hne : p ≠ c) (hp : H p = some (.dK (kvS c t))) (hc : H c = some (.lst (ns.map V.int))) : HOk P w (upd2 H p c (srcO P w p c) (celO P w c)) h := by
  have o1 := ok p _ hp
  have o2 := ok c _ hc
  have z1 : ObjOk P w (fun _ => none) h p (.dK (kvS c t)) := by
    obtain ⟨z, y, vs, r, ob, es, ep, e, q⟩ := o1
    exact ⟨z, y, vs, r, ob, es, ep, e, q⟩
  have z2 : ObjOk P w (fun _ => none) h c (.lst (ns.map V.int)) := by
    obtain ⟨z, its, n, r, e⟩ := o2
    exact ⟨z, its, n, r, e⟩
  refine retold ok hne hp hc (fun _ z => by cases z) (fun _ z => by cases z) (fun _ z => by cases z) (fun _ z => by cases z) ⟨⟨t, z1⟩, ?_, ?_⟩ ⟨⟨ns, z2⟩, ?_, ?_⟩
  · obtain ⟨z, y, vs, r, ob, es, ep, e, q⟩ := o1
    exact ⟨_, e⟩
  · rintro h1 h2 ⟨t, x⟩ k
    exact ⟨t, x.stay (fun b u hb z => by rcases hb with rfl | hb; exact k u z; cases hb) (fun _ z => z) fun _ _ z => z⟩
  · obtain ⟨z, its, n, r, e⟩ := o2
    exact ⟨_, e⟩
  · rintro h1 h2 ⟨t, x⟩ k
    exact ⟨t, x.stay (fun b u hb z => by rcases hb with rfl | hb; exact k u z; cases hb) (fun _ z => z) fun _ _ z => z⟩
/-- drawing: any number below top; nothing told is changed -/
def spDr (P : Program) (w : World) : Sp := fun vs H Q _ => ∃ (p c : Addr) (top : Nat), vs = [.ref p, .int (top : Int)] ∧ SrcH P w p c H ∧ 1 ≤ top ∧ top ≤ 1000 ∧ ∀ (r : Nat) H', r < top → Same H H' → Q (.int (r : Int)) H'
/-- .. with the source open -/
structure Base (H0 : Hp) (p c : Addr) (H1 : Hp) (t : Int) (ns : List Int) : Prop where
  src : H1 p = some (.dK (kvS c t))
  cel : H1 c = some (.lst (ns.map V.int))
  same : ∀ b o, b ≠ p → b ≠ c → H0 b = some o → H1 b = some o
theorem Base.mono {H0 H1 H2 : Hp} (x : Base H0 p c H1 t ns) (e : Same H1 H2) : Base H0 p c H2 t ns := ⟨e _ _ x.src, e _ _ x.cel, fun b o n1 n2 z => e _ _ (x.same b o n1 n2 z)⟩
def spDo : Sp := fun vs H Q _ => ∃ (p c : Addr) (top : Nat) (t : Int) (ns : List Int), vs = [.ref p, .int (top : Int)] ∧ p ≠ c ∧ H p = some (.dK (kvS c t)) ∧ H c = some (.lst (ns.map V.int)) ∧ 1 ≤ top ∧ top ≤ 1000 ∧
  ∀ (r : Nat) H' t' ns', r < top → Base H p c H' t' ns' → Q (.int (r : Int)) H'
theorem closed {K : PySem.W.Frag} {mg : Str → Option Value} {base : Heap} {k : Nat} {f : Addr} {fd : FuncData} {ps : List Str} (F : FnOk P w K mg base CX0 k f fd ps spDo) (hl : ps.length = 2) : FnOk P w K mg base CX0 k f fd ps (spDr P w) := by
  refine ⟨fun vs H Q E ⟨p, c, top, h, _⟩ => by rw [h, hl]; rfl, fun A outer s H args us vs Q E hr he hb hv ⟨p, c, top, hvs, S, h1, h2, q⟩ => ?_⟩
  obtain ⟨t, ns, ok⟩ := openH he.hok S
  have pos : ∀ {b}, H b = none → b ≠ p ∧ b ≠ c := fun {b} hb => ⟨fun z => (by rw [z, S.src] at hb; cases hb), fun z => (by rw [z, S.cel] at hb; cases hb)⟩
  have none_ : ∀ {b}, H b = none → upd2 H p c (.dK (kvS c t)) (.lst (ns.map V.int)) b = none := fun {b} hb => by rw [upd2_ne (pos hb).1 (pos hb).2]; exact hb
  have keep_ : ∀ {b o}, (∀ z : H b = some o, b ≠ p ∧ b ≠ c) → H b = some o → upd2 H p c (.dK (kvS c t)) (.lst (ns.map V.int)) b = some o := fun {b o} hn z => by rw [upd2_ne (hn z).1 (hn z).2]; exact z
  have e1 : Env0 P w K mg base A outer s (upd2 H p c (.dK (kvS c t)) (.lst (ns.map V.int))) := ⟨he.frames, he.mod, fun b o z => ⟨(he.bs b o z).1, none_ (he.bs b o z).2⟩, he.bsz, he.funs, fun b z => none_ (he.frf b z), ok, he.bare⟩
  refine codeAny_mono (F.run A outer s _ args us vs (fun v H' => ∃ r t' ns', r < top ∧ v = .int ((r : Nat) : Int) ∧ Base (upd2 H p c (.dK (kvS c t)) (.lst (ns.map V.int))) p c H' t' ns') E hr e1 hb hv ⟨p, c, top, t, ns, hvs, S.ne, upd2_p S.ne, upd2_c, h1, h2, fun r H' t' ns' hr' hb' => ⟨r, t', ns', hr', rfl, hb'⟩⟩) fun r s' hq => ?_
  cases r with
  | error e => exact hq.elim
  | ok fl =>
    cases fl with
    | ret u =>
      obtain ⟨v, H', os, bare, un, hok, rv, r, t', ns', hr', rfl, B⟩ := hq
      have ne2 : ∀ {b o}, H b = some o → o ≠ srcO P w p c → o ≠ celO P w c → b ≠ p ∧ b ≠ c := fun {b o} z n1 n2 => ⟨fun e => by rw [e, S.src] at z; exact n1 (Option.some.inj z).symm, fun e => by rw [e, S.cel] at z; exact n2 (Option.some.inj z).symm⟩
      have mv : ∀ {b o}, b ≠ p ∧ b ≠ c → H b = some o → upd2 H p c (.dK (kvS c t)) (.lst (ns.map V.int)) b = some o := fun {b o} n z => by rw [upd2_ne n.1 n.2]; exact z
      refine ⟨_, upd2 H' p c (srcO P w p c) (celO P w c), os, bare, ⟨fun b o z n => un.keep b o z (none_ n), fun b o z n => un.slot b o z (none_ n), fun b o z n hx => ?_, un.there, fun b xs z => ?_, fun b o u z => ?_, fun b ps z => ?_⟩, closeH hok S.ne B.src B.cel, rv, q r _ hr' fun b o z => ?_⟩
      · rw [upd2_ne (pos n).1 (pos n).2]; exact un.free b o z (none_ n) hx
      · have n := ne2 z (fun e => src_tup e.symm) fun e => cel_tup e.symm
        rw [upd2_ne n.1 n.2]; exact un.tups b xs (mv n z)
      · have n := ne2 z (fun e => by unfold srcO at e; cases e) fun e => by unfold celO at e; cases e
        rw [upd2_ne n.1 n.2]; exact un.frzs b o u (mv n z)
      · have n := ne2 z (fun e => by unfold srcO at e; cases e) fun e => by unfold celO at e; cases e
        rw [upd2_ne n.1 n.2]; exact un.tbls b ps (mv n z)
      · by_cases hp : b = p
        · subst hp; rw [S.src] at z; cases z; exact upd2_p S.ne
        · by_cases hc : b = c
          · subst hc; rw [S.cel] at z; cases z; exact upd2_c
          · rw [upd2_ne hp hc]
            exact B.same b o hp hc (by rw [upd2_ne hp hc]; exact z)
    | next => exact hq.elim
    | brk => exact hq.elim
    | cont => exact hq.elim
end
end Kp

set_option Elab.async false
set_option linter.all false
set_option maxRecDepth 100000
set_option maxHeartbeats 4000000
namespace Pz
open PySem PySem.Spec PyProof.Rows L2
theorem hss_ex {X : Cx} {α : Sort _} {rest : List Stmt} {P : α → As} {Z : Ends} (h : ∀ a, HSs X rest (P a) Z) : HSs X rest (fun σ H => ∃ a, P a σ H) Z := ⟨fun pins s σ H D I q => by
  obtain ⟨⟨a, q1⟩, q2⟩ := q
  exact (h a).run pins s σ H D I ⟨q1, q2⟩⟩
end Pz
namespace Kp
open PySem PySem.Spec PyProof.Rows L2 Pz
abbrev sDraw : Stmt := top 28
theorem scDraw : FnScope ["_law_source", "_law_top", "_law_cells", "_law_turn", "_law_at", "_law_cell", "_law_once", "_law_twice"] ["_law_source", "_law_top"] (defScope sDraw) := ⟨rfl, rfl, rfl, by decide +kernel, rfl, by decide +kernel, by decide +kernel⟩
theorem ixN_at {n j : Nat} (h : j < n) : ixN n (j : Int) = some j := by
  unfold ixN
  rw [if_pos (by omega), if_pos (by omega), Int.toNat_natCast]
section
variable {X : Cx} {ρ : Pz.Env} {o : Expr} {p c : Addr}
/-- source['k'] -/
theorem pe_get {k : Str} {j : Nat} {pk pos : Pos} {kvs : List (Key × L2.V)} {v : L2.V} (hu : X.A.units + 1 < cLine) (h0 : DE X o ρ (srcD p c)) (hv : valV kvs (.inr k) = some v) (hs : NoSl (.Constant (.str k) j pk) := by exact fun _ _ => rfl) :
    PE X (.Subscript o (.Constant (.str k) j pk) pos) (fun σ H Q => Sat ρ σ H ∧ H p = some (.dK kvs) ∧ ∀ H', Same H H' → Q v H') :=
  PE_imp (pe_dget hu h0 (de_str (ρ := ρ)) hs) fun σ H Q ⟨s, e, q⟩ => ⟨s, fun x H1 e1 r1 => ⟨s.mono e1, fun y H2 e2 r2 => ⟨p, v, r1.isSrc, by rw [r2.isStr, ← hv]; exact DGet.k (k := .inr k) (e2 _ _ (e1 _ _ e)), q H2 (e1.trans e2)⟩⟩⟩
end
section
variable {P : Program} {w : World} {K : PySem.W.Frag} {mg : Str → Option Value} {base : Heap}
def RtD (H0 : Hp) (p c : Addr) (top : Nat) : VK := fun v H => ∃ (r : Nat) (t : Int) (ns : List Int), r < top ∧ v = .int (r : Int) ∧ Base H0 p c H t ns
theorem rtD_of {H0 H1 : Hp} {p c : Addr} {top : Nat} {t : Int} {ns : List Int} (B : Base H0 p c H1 t ns) (h1 : 1 ≤ top) (i : Int) : ∀ v H, RetD H1 (.int (i % (top : Int))) v H → RtD H0 p c top v H := fun v H ⟨e, r⟩ => by
  have z1 := Int.emod_nonneg i (show (top : Int) ≠ 0 by omega)
  have z2 := Int.emod_lt_of_pos i (show (0 : Int) < (top : Int) by omega)
  refine ⟨(i % (top : Int)).toNat, t, ns, by omega, ?_, B.mono e⟩
  rw [r.isInt, Int.toNat_of_nonneg z1]
theorem ok_draw0 (B : Bi mg) {f : Addr} {fd : FuncData} (F : Fun K "_law_draw" "_law_draw" sDraw f fd) : FnOk P w K mg base CX0 1 f fd ["_law_source", "_law_top"] spDo := by
  refine F.ok scDraw (fun vs H Q E ⟨p, c, top, t, ns, h, _⟩ => by rw [h]; rfl) fun cdv A outer s H vs Q E hr ⟨p, c, tp, t, ns, hvs, hne, hp, hc, h1, h2, q⟩ => ?_
  subst hvs
  have hu : (A.deeper (envOfC "_law_draw" (defScope sDraw) s.heap.objs.size f cdv)).units + 1 < cLine := hu_of hr
  let ρ0 : Pz.Env := [some (srcD p c), some (nat tp), none, none, none, none, none, none]
  have body : HSs (cxOf CX0 P w K mg base ["_law_source", "_law_top", "_law_cells", "_law_turn", "_law_at", "_law_cell", "_law_once", "_law_twice"] "_law_draw" (defScope sDraw) f cdv A outer s H E).nox (defBody sDraw)
      (At H (st0 ["_law_source", "_law_top", "_law_cells", "_law_turn", "_law_at", "_law_cell", "_law_once", "_law_twice"] [srcD p c, nat tp])) { nx := fun _ _ => False, rt := RtD H p c tp } := by
    refine hs_seq (M := fun σ H' => ∃ H1, Base H p c H1 (t + 1) ns ∧ At H1 [some (srcD p c), some (nat tp), none, none, none, none, none, none] σ H') (PS_imp (ps_dput hu (dv (ρ := ρ0) (d := srcD p c) 0) (de_str (ρ := ρ0)) (pe_op op_add (pe_get (ρ := ρ0) (p := p) (c := c) (kvs := kvS c t) (v := .int t) hu (dv 0) rfl) (de_int (ρ := ρ0))) rfl) fun D σ H' ⟨⟨e0, s0⟩, l⟩ => ?_) (hss_ex fun H1 => hss_fact fun BB => ?_)
    · refine ⟨s0, e0 _ _ hp, fun H2 e2 => ⟨s0.mono e2, fun y H3 e3 ry => ⟨t, 1, rfl, ry.isInt, ⟨s0.mono (e2.trans e3), fun x H4 e4 rx => ⟨s0.mono (e2.trans (e3.trans e4)), fun z H5 e5 rz => ⟨p, upd H5 p (.dK (kvS c (t + 1))), rx.isSrc, ?_, ?_⟩⟩⟩⟩⟩⟩
      · rw [rz.isStr]
        exact DPut.k (k := .inr "turn") (kvs := kvS c t) ((e0.trans (e2.trans (e3.trans (e4.trans e5)))) _ _ hp) (by show 2 < sizeLine; exact small1000 (by omega))
      · have e := e0.trans (e2.trans (e3.trans (e4.trans e5)))
        refine l.1 _ _ ⟨_, ⟨upd_same, by rw [upd_ne (Ne.symm hne)]; exact e _ _ hc, fun b o n1 n2 z => by rw [upd_ne n1]; exact e _ _ z⟩, Same.refl _, ?_⟩
        have s5 := (s0.mono (e2.trans (e3.trans (e4.trans e5))))
        refine ⟨s5.len, fun i d hd => ?_⟩
        match i, hd with
        | 0, hd => cases hd; obtain ⟨v, z1, z2⟩ := s5.at_ 0 (srcD p c) rfl; rw [z2.isSrc] at z1; exact ⟨_, z1, rp_src p c⟩
        | 1, hd => cases hd; obtain ⟨v, z1, z2⟩ := s5.at_ 1 (nat tp) rfl; rw [z2.isInt] at z1; exact ⟨_, z1, rp_int _⟩
        | i + 2, hd => match i, hd with
          | 0, hd => cases hd
          | 1, hd => cases hd
          | 2, hd => cases hd
          | 3, hd => cases hd
          | 4, hd => cases hd
          | 5, hd => cases hd
          | i + 6, hd => simp at hd
    · let At2 : Pz.Env → As := fun ρ σ H' => σ[2]? = some (some (.ref c)) ∧ At H1 ρ σ H'
      have st2 : ∀ ρ, Stab (At2 ρ) := fun ρ σ H H' h e => ⟨h.1, at_stab σ H H' h.2 e⟩
      have sat2 : ∀ ρ σ H', At2 ρ σ H' → Sat ρ σ H' := fun ρ σ H' h => h.2.2
      refine hs_seq (M := At2 [some (srcD p c), some (nat tp), some (.list (ns.map .int)), none, none, none, none, none]) (PS_imp (ps_set (i := 2) scDraw.nd rfl (.inl rfl) (pe_get (ρ := [some (srcD p c), some (nat tp), none, none, none, none, none, none]) (p := p) (c := c) (kvs := kvS c (t + 1)) (v := .ref c) hu (dv 0) rfl)) fun D σ H' ⟨⟨e0, s0⟩, l⟩ => ⟨s0, e0 _ _ BB.src, fun H2 e2 => l.1 _ _ ⟨?_, e0.trans e2, Sat.set (i := 2) (s0.mono e2) (rp_lst ((e0.trans e2) _ _ BB.cel) (rpa_ints ns))⟩⟩) ?_
      · exact List.getElem?_set_self (Nat.lt_of_lt_of_le (by show 2 < 8; omega) s0.len)
      have hlen : ∀ {ρ : Pz.Env} {pos pp : Pos}, ρ[2]? = some (some (.list (ns.map .int))) → True := fun _ => trivial
      refine hs_seq (hs_guardG (b := ns.length == 0) (dt_cmp op_eq (de_callB call_len_seq B.len (by decide +kernel) (da_one (dv 2)) rc_lenM) (de_k 0) r2_eqN) (sat2 _) (st2 _) (fun h => hs_one (hs_retG (d := .int (0 % (tp : Int))) (de_of de_int (by rw [Int.zero_emod])) (sat2 _) fun σ H' v H2 q e r => rtD_of BB h1 0 v H2 ⟨q.2.1.trans e, r⟩))) (hss_fact fun hz => ?_)
      have hpos : 0 < ns.length := by
        have : ns.length ≠ 0 := fun z => by rw [z] at hz; cases hz
        omega
      refine hs_seq (M := At2 [some (srcD p c), some (nat tp), some (.list (ns.map .int)), some (.int (t + 1)), none, none, none, none]) (PS_imp (ps_set (i := 3) scDraw.nd rfl (.inl rfl) (pe_get (ρ := [some (srcD p c), some (nat tp), some (.list (ns.map .int)), none, none, none, none, none]) (p := p) (c := c) (kvs := kvS c (t + 1)) (v := .int (t + 1)) hu (dv 0) rfl)) fun D σ H' ⟨⟨z0, e0, s0⟩, l⟩ => ⟨s0, e0 _ _ BB.src, fun H2 e2 => l.1 _ _ ⟨by rw [List.getElem?_set_ne (by decide)]; exact z0, e0.trans e2, Sat.set (i := 3) (s0.mono e2) (rp_int _)⟩⟩) ?_
      obtain ⟨j, hj, hjl⟩ : ∃ j : Nat, (t + 1 + 3) % (ns.length : Int) = (j : Int) ∧ j < ns.length := by
        have z1 := Int.emod_nonneg (t + 1 + 3) (show (ns.length : Int) ≠ 0 by omega)
        have z2 := Int.emod_lt_of_pos (t + 1 + 3) (show (0 : Int) < (ns.length : Int) by omega)
        exact ⟨((t + 1 + 3) % (ns.length : Int)).toNat, by omega, by omega⟩
      refine hs_seq (M := At2 [some (srcD p c), some (nat tp), some (.list (ns.map .int)), some (.int (t + 1)), some (nat j), none, none, none]) (hs_setG (i := 4) scDraw.nd rfl (.inl rfl) (de_of (d := nat j) (de_op op_mod (de_callTy call_int1 B.int (by decide +kernel) (da_one (de_op op_add (dv 3) de_int r2_I0)) rc_int) (de_callB call_len_seq B.len (by decide +kernel) (da_one (dv 2)) rc_lenM) (r2_I (by omega))) (congrArg PyData.int hj)) (sat2 _)
        fun σ H' v H2 q e r => ⟨by rw [List.getElem?_set_ne (by decide)]; exact q.1, q.2.1.trans e, Sat.set (i := 4) (q.2.2.mono e) r⟩) ?_
      obtain ⟨x, hx⟩ : ∃ x, ns[j]? = some x := ⟨_, List.getElem?_eq_getElem hjl⟩
      refine hs_seq (M := At2 [some (srcD p c), some (nat tp), some (.list (ns.map .int)), some (.int (t + 1)), some (nat j), some (.int x), none, none]) (hs_setG (i := 5) scDraw.nd rfl (.inl rfl) (de_ix ix_list (dv 2) (dv 4) (r2_ixL (k := j) (d := .int x) rfl (by rw [List.getElem?_map, hx] <;> rfl))) (sat2 _)
        fun σ H' v H2 q e r => ⟨by rw [List.getElem?_set_ne (by decide)]; exact q.1, q.2.1.trans e, Sat.set (i := 5) (q.2.2.mono e) r⟩) ?_
      refine hs_seq (hs_guardG (dt_cmp op_ge (dv 5) de_int r2_B0) (sat2 _) (st2 _) fun hbig => ?_) (hss_fact fun hsmall => ?_)
      · refine hs_seq (M := fun σ H' => ∃ H2, Base H p c H2 (t + 1) (ns.set j (x / (tp : Int))) ∧ At H2 [some (srcD p c), some (nat tp), none, some (.int (t + 1)), some (nat j), some (.int x), none, none] σ H')
          (PS_imp (ps_asg (de_op (ρ := [some (srcD p c), some (nat tp), some (.list (ns.map .int)), some (.int (t + 1)), some (nat j), some (.int x), none, none]) op_fdiv (dv 5) (dv 1) (r2_I (C := CDiv) ⟨by omega, by omega⟩)) (pg_sub (pv 2) (dv (ρ := [some (srcD p c), some (nat tp), some (.list (ns.map .int)), some (.int (t + 1)), some (nat j), some (.int x), none, none]) (d := nat j) 4) set_list)) fun D σ H' ⟨⟨z0, e0, s0⟩, l⟩ => ?_) (hss_ex fun H2 => hss_fact fun B2 => ?_)
        · refine ⟨s0, fun v H2 e2 r2 => ⟨_, z0, s0.mono e2, fun y H3 e3 r3 => ⟨c, ns.map V.int, (j : Int), j, rfl, r3.isInt, (e0.trans (e2.trans e3)) _ _ BB.cel, ?_, ?_⟩⟩⟩
          · rw [List.length_map]; exact ixN_at hjl
          · have e := e0.trans (e2.trans e3)
            have s3 := s0.mono (e2.trans e3)
            refine l.1 _ _ ⟨_, ⟨by rw [upd_ne hne]; exact e _ _ BB.src, by rw [upd_same, r2.isInt, List.map_set], fun b o n1 n2 z => by rw [upd_ne n2]; exact e _ _ (BB.same b o n1 n2 z)⟩, Same.refl _, ?_⟩
            refine ⟨s3.len, fun i d hd => ?_⟩
            have flat : ∀ (i : Nat) (d : PyData), ([some (srcD p c), some (nat tp), none, some (.int (t + 1)), some (nat j), some (.int x), none, none] : Pz.Env)[i]? = some (some d) → ([some (srcD p c), some (nat tp), some (.list (ns.map .int)), some (.int (t + 1)), some (nat j), some (.int x), none, none] : Pz.Env)[i]? = some (some d) ∧ ((d = srcD p c) ∨ ∃ k, d = .int k) := fun i d hd => by
              match i, hd with
              | 0, hd => cases hd; exact ⟨rfl, .inl rfl⟩
              | 1, hd => cases hd; exact ⟨rfl, .inr ⟨_, rfl⟩⟩
              | 2, hd => cases hd
              | 3, hd => cases hd; exact ⟨rfl, .inr ⟨_, rfl⟩⟩
              | 4, hd => cases hd; exact ⟨rfl, .inr ⟨_, rfl⟩⟩
              | 5, hd => cases hd; exact ⟨rfl, .inr ⟨_, rfl⟩⟩
              | 6, hd => cases hd
              | 7, hd => cases hd
              | i + 8, hd => simp at hd
            obtain ⟨g1, g2⟩ := flat i d hd
            obtain ⟨v, z1, z2⟩ := s3.at_ i d g1
            rcases g2 with rfl | ⟨k, rfl⟩
            · rw [z2.isSrc] at z1; exact ⟨_, z1, rp_src p c⟩
            · rw [z2.isInt] at z1; exact ⟨_, z1, rp_int k⟩
        · exact hs_one (hs_ret (de_op op_mod (de_callTy call_int1 B.int (by decide +kernel) (da_one (dv 5)) rc_int) (dv 1) (r2_I (by omega))) (rtD_of B2 h1 x))
      · have m1 := Int.emod_nonneg (x * 4861 + (t + 1) * 87811) (show (1000037 : Int) ≠ 0 by decide)
        have m2 := Int.emod_lt_of_pos (x * 4861 + (t + 1) * 87811) (show (0 : Int) < 1000037 by decide)
        refine hss_pre (P := At H1 [some (srcD p c), some (nat tp), some (.list (ns.map .int)), some (.int (t + 1)), some (nat j), some (.int x), none, none]) ?_ fun σ H' q => q.2
        refine hs_seq (hs_set (i := 6) scDraw.nd (de_op op_mod (de_callTy call_int1 B.int (by decide +kernel) (da_one (de_op op_add (de_op op_mul (dv 5) de_int (r2_I (C := CMul) (.inr ⟨by decide, by decide⟩))) (de_op op_mul (dv 3) de_int (r2_I (C := CMul) (.inr ⟨by decide, by decide⟩))) r2_I0)) rc_int) de_int (r2_I (by decide)))) ?_
        refine hs_seq (hs_set (i := 7) scDraw.nd (de_op op_mod (de_callTy call_int1 B.int (by decide +kernel) (da_one (de_op op_add (de_op op_add (de_op op_mul (dv 6) (dv 6) (r2_I (C := CMul) (.inl ⟨by omega, by omega⟩))) (de_op op_mul de_int (dv 5) (r2_I (C := CMul) (.inl ⟨by decide, by decide⟩))) r2_I0) (de_op op_mul de_int (dv 3) (r2_I (C := CMul) (.inl ⟨by decide, by decide⟩))) r2_I0)) rc_int) de_int (r2_I (by decide)))) ?_
        exact hs_one (hs_ret (de_op op_mod (de_callTy call_int1 B.int (by decide +kernel) (da_one (de_op op_fdiv (dv 7) de_int (r2_I (C := CDiv) ⟨by decide, by decide⟩))) rc_int) (dv 1) (r2_I (by omega))) (rtD_of BB h1 _))
  refine ⟨_, body, ⟨Same.refl H, sat_start (rpa_cons (rp_src p c) (rpa_cons (rp_int _) rpa_nil))⟩, fun _ _ h => h.elim, fun v H' ⟨r, t', ns', hr', hv, hb⟩ => ?_, fun _ _ h => h.elim, fun _ _ h => h.elim⟩
  rw [hv]
  exact q r H' t' ns' hr' hb
theorem ok_draw (B : Bi mg) (F : Has K mg "_law_draw" sDraw ["_law_source", "_law_top"]) : Cal P w K mg base CX0 1 "_law_draw" ["_law_source", "_law_top"] (spDr P w) := by
  obtain ⟨f, fd, F, hm, hb⟩ := F.ex
  exact ⟨f, fd, closed (ok_draw0 B F) rfl, hm, F.kp, hb⟩
end
end Kp

set_option Elab.async false
set_option linter.all false
set_option maxRecDepth 100000
set_option maxHeartbeats 4000000
namespace Pz
open PySem PySem.Spec PyProof.Rows L2
theorem RpA.set {H : Hp} : ∀ {ds : List PyData} {xs : List L2.V} {j : Nat} {d : PyData} {v : L2.V}, RpA H ds xs → Rp H d v → RpA H (ds.set j d) (xs.set j v)
  | [], xs, j, d, v, h, r => by rw [h.isNil]; exact rpa_nil
  | e :: ds, xs, 0, d, v, h, r => by
    obtain ⟨x, q, rfl, h2, h3⟩ := h.isCons
    exact rpa_cons r h3
  | e :: ds, xs, j + 1, d, v, h, r => by
    obtain ⟨x, q, rfl, h2, h3⟩ := h.isCons
    exact rpa_cons h2 (RpA.set h3 r)
theorem RpA.take {H : Hp} : ∀ {ds : List PyData} {xs : List L2.V} (n : Nat), RpA H ds xs → RpA H (ds.take n) (xs.take n)
  | [], xs, n, h => by rw [h.isNil, List.take_nil, List.take_nil]; exact rpa_nil
  | e :: ds, xs, 0, h => by rw [List.take_zero, List.take_zero]; exact rpa_nil
  | e :: ds, xs, n + 1, h => by
    obtain ⟨x, q, rfl, h2, h3⟩ := h.isCons
    exact rpa_cons h2 (RpA.take n h3)
theorem AtM.seti {H0 : Hp} {k : Nat} {es : List PyData} {ρ : Pz.Env} {σ : L2.St} {H : Hp} {i : Nat} {j : Int} (h : AtM H0 k es ρ σ H) (hik : i ≠ k) : AtM H0 k es (ρ.set i (some (.int j))) (σ.set i (some (.int j))) H := by
  obtain ⟨a, xs, h1, h2, h3, h4, h5⟩ := h
  exact ⟨a, xs, by rw [List.getElem?_set_ne hik]; exact h1, h2, h3, h4, h5.set (rp_int _)⟩
section
variable {X : Cx} {P : As} {Z : Ends} {H0 : Hp} {ρ : Pz.Env} {e ix : Expr} {pos p p2 : Pos} {x y : Str} {d : PyData} {ds es : List PyData} {i j k : Nat}
/-- xs[ix] = e -/
theorem hs_item (he : DE X e (ρ.set k (some (.list es))) d) (im : imm d = true) (hx : DE X ix (ρ.set k (some (.list es))) (nat j)) (hj : j < es.length) (hN : X.N[k]? = some y := by rfl) (hv : Vis X.env.scope y := by first | exact Or.inl rfl | exact Or.inr (Or.inl rfl) | exact Or.inr (Or.inr rfl))
    (hd : (y == ("__debug__" : Str)) = false := by decide) (hcd : (y == ("__classdict__" : Str)) = false := by decide)
    (ha : ∀ v, assign (.Subscript (.Name y p) ix p2) X.env v = (do
      let ov ← holding [v] (eval (.Name y p) X.env)
      let iv ← holding [v, ov] (eval ix X.env)
      standAt p2
      holding [v, ov, iv] (setItem ov iv v)
      release [v, ov, iv] []) := by intro _; rfl)
    (hs : swapsWithSole [.Subscript (.Name y p) ix p2] e pos.line X.env = pure false := by rfl) (hw : swappedStores [.Subscript (.Name y p) ix p2] e X.env = pure none := by rfl) :
    HS X (.Assign [.Subscript (.Name y p) ix p2] e pos) (AtM H0 k es ρ) { Z with nx := AtM H0 k (es.set j d) ρ } := by
  refine PS_imp (ps_asg he (pg_sub (pe_var hN hv hd hcd) hx set_list ha) hs hw) fun D σ H ⟨q, l⟩ => ?_
  have s := q.sat
  obtain ⟨a, xs, h1, h2, h3, h4, h5⟩ := q
  refine ⟨s, fun v H1 e1 r1 => ⟨.ref a, h1, s.mono e1, fun z H2 e2 r2 => ⟨a, xs, (j : Int), j, rfl, r2.isInt, e2 _ _ (e1 _ _ h2), ?_, l.1 _ _ ?_⟩⟩⟩
  · unfold ixN
    rw [if_pos (by omega), if_pos (by rw [h3.length]; omega), Int.toNat_natCast]
  · refine ⟨a, xs.set j v, h1, upd_same, ?_, ?_, ?_⟩
    · rw [del_upd]
      exact RpA.set (RpA.mono (del_mono (e1.trans e2)) _ _ h3) (Rp.mono (del_mono e2) _ _ (Rp.del (e1 _ _ h2) im r1))
    · rw [del_upd]; exact h4.trans (del_mono (e1.trans e2))
    · rw [del_upd]; exact h5.mono (del_mono (e1.trans e2))
/-- for x in range(n), any invariant -/
theorem hs_forI {iter : Expr} {body : List Stmt} {I : Nat → As} {n : Nat} (hp : PassesOwn (model X.prog X.w) X.A X.env X.xe) (hc : X.calm = true) (hit : DR X (.Name x p) iter ρ 0 n) (hg : PG X (.Name x p) (gName i)) (hP : ∀ σ H, P σ H → Sat ρ σ H)
    (h0 : ∀ σ H H', P σ H → Same H H' → I 0 σ H') (hb : ∀ j, j < n → HSs X body (fun σ H => ∃ σ0, σ = σ0.set i (some (.int (j : Int))) ∧ I j σ0 H) { nx := I (j + 1), rt := Z.rt, ct := I (j + 1) })
    (hd : ∀ σ H, I n σ H → Z.nx σ H) (hs : ∀ x, foldedSetIterable iter X.env x = pure x := by intro _; rfl) : HS X (.For (.Name x p) iter body [] pos) P Z := by
  refine PS_imp (ps_for (tb := fun D σ H => ∃ j, j < n ∧ tS (fun σ H => ∃ σ0, σ = σ0.set i (some (.int (j : Int))) ∧ I j σ0 H) { nx := I (j + 1), rt := Z.rt, ct := I (j + 1) } D σ H) hp hc hit hg
    ⟨fun pins s σ H D I q => by obtain ⟨j, hj, q⟩ := q; exact (hb j hj).run pins s σ H D I q⟩ hs) fun D σ H ⟨q, l⟩ => ⟨hP σ H q, fun H1 e1 => ?_⟩
  refine ⟨fun j m σ' H' => j + m = n ∧ I j σ' H', ⟨n, by omega, h0 σ H H1 q e1⟩, fun j m σ' H' hw => ?_⟩
  obtain ⟨hjm, h⟩ := hw
  by_cases hj : j < n
  · refine .inr ⟨hj, I (j + 1), fun σ2 H2 q2 => ⟨m - 1, by omega, by omega, q2⟩, fun v H3 hy => ?_⟩
    obtain ⟨rfl, rfl⟩ := hy
    exact ⟨j, hj, ⟨σ', by rw [Int.zero_add], h⟩, fun _ _ h => h, l.2.1, fun _ _ h => False.elim h, fun _ _ h => h⟩
  · have en : j = n := by omega
    subst en
    exact .inl ⟨Nat.le_refl _, l.1 _ _ (hd σ' H' h)⟩
end
end Pz
namespace Kp
open PySem PySem.Spec PyProof.Rows L2 Pz
abbrev sGroups : Stmt := top 34
abbrev sDrawn : Stmt := top 35
abbrev sPairs : Stmt := top 42
theorem scGroups : FnScope ["_law_source", "_law_n", "_law_groups_here", "_law_step", "_law_house", "_law_pick"] ["_law_source", "_law_n"] (defScope sGroups) := ⟨rfl, rfl, rfl, by decide +kernel, rfl, by decide +kernel, by decide +kernel⟩
theorem scDrawn : FnScope ["_law_source", "_law_n", "_law_full_here", "_law_how", "_law_few", "_law_groups_here", "_law_drawn", "_law_k", "_law_mark"] ["_law_source", "_law_n"] (defScope sDrawn) := ⟨rfl, rfl, rfl, by decide +kernel, rfl, by decide +kernel, by decide +kernel⟩
theorem scPairs : FnScope ["_law_source", "_law_n", "_law_pairs_here", "_law_low", "_law_high"] ["_law_source", "_law_n"] (defScope sPairs) := ⟨rfl, rfl, rfl, by decide +kernel, rfl, by decide +kernel, by decide +kernel⟩
/-- a def that draws from the source and gives a new list, one of several -/
def spN (P : Program) (w : World) (R : List PyData → (List PyData → Prop) → Prop) : Sp := fun vs H Q _ => ∃ (p c : Addr) (ds : List PyData) (S : List PyData → Prop), R ds S ∧ RpA H (srcD p c :: ds) vs ∧ SrcH P w p c H ∧
  ∀ es, S es → ∀ q xs H', H q = none → Same H H' → H' q = some (.lst xs) → RpA H' es xs → Q (.ref q) H'
section
variable {X : Cx} {ρ : Pz.Env} {o e : Expr} {p c : Addr} {top k j : Nat} {pos p1 : Pos}
theorem pe_draw (C : Cal X.prog X.w X.K X.mg X.base CX0 1 "_law_draw" ["_law_source", "_law_top"] (spDr X.prog X.w)) (hr : Room j X.A) (hkj : 1 ≤ j) (h0 : DE X o ρ (srcD p c)) (he : DE X e ρ (nat top)) (h1 : 1 ≤ top) (h2 : top ≤ 1000) (hg : Gl X "_law_draw" := by rfl)
    (so : starEach (o :: [e]) X.env = (false, eval o X.env) :: starEach [e] X.env := by rfl) (se : starEach (e :: []) X.env = (false, eval e X.env) :: starEach [] X.env := by rfl) (hpl : (backTo pos (starEach [e] X.env)).any (·.1) = false := by rfl) :
    PE X (.Call (.Name "_law_draw" p1) [o, e] [] pos) (fun σ H Q => Sat ρ σ H ∧ SrcH X.prog X.w p c H ∧ ∀ (r : Nat) H', r < top → Same H H' → Q (.int (r : Int)) H') := by
  obtain ⟨f, fd, G, hm, hk, hb⟩ := C.ex
  exact PE_imp (pe_call G (hr.mono hkj) hg hm hk hb .nil pass0 (da_cons h0 (da_one he se) so) (by decide) so hpl) fun σ H Q ⟨s, S, q⟩ => ⟨s, fun vs H1 e1 r1 => by
    obtain ⟨x, y, rfl, rx, ry⟩ := r1.isTwo
    show spDr X.prog X.w ([x, y] ++ []) H1 Q E0
    exact ⟨p, c, top, by rw [rx.isSrc, ry.isInt]; rfl, S.mono e1, h1, h2, fun r H' hr' e2 => q r H' hr' (e1.trans e2)⟩⟩
/-- x = draw(source, e) -/
theorem hs_draw {P : As} {Z : Ends} {x : Str} {i : Nat} {spos px : Pos} (hN : X.N.Nodup) (T : PE X e (fun σ H Q => Sat ρ σ H ∧ SrcH X.prog X.w p c H ∧ ∀ (r : Nat) H', r < top → Same H H' → Q (.int (r : Int)) H')) (hP : ∀ σ H, P σ H → Sat ρ σ H ∧ SrcH X.prog X.w p c H)
    (k : ∀ σ H (r : Nat) H', P σ H → Same H H' → r < top → Z.nx (σ.set i (some (.int (r : Int)))) H') (hi : X.N[i]? = some x := by rfl) (hx : Loc X.env.scope x := by first | exact .inl rfl | exact .inr rfl) (hs : swapsWith e (some (.Name x px)) spos.line X.env = pure false := by rfl)
    (hf : X.fn x = true ∨ X.env.scope.names.lookup x = some .local := by first | exact .inl rfl | exact .inr rfl) : HS X (.Assign [.Name x px] e spos) P Z :=
  PS_imp (ps_set hN hi hx T hs hf) fun D σ H ⟨q, l⟩ => ⟨(hP σ H q).1, (hP σ H q).2, fun r H' hr e1 => l.1 _ _ (k σ H r H' q e1 hr)⟩
/-- a call that gives one of several new lists -/
theorem pe_callN {x : Str} {ps : List Str} {R : List PyData → (List PyData → Prop) → Prop} {es : List Expr} {ds : List PyData} {S : List PyData → Prop} (C : Cal X.prog X.w X.K X.mg X.base CX0 k x ps (spN X.prog X.w R)) (hr : Room j X.A) (hkj : k ≤ j) (ha : DA X (e :: es) ρ (srcD p c :: ds)) (hR : R ds S) (hg : Gl X x := by rfl) (hdb : (x == ("__debug__" : Str)) = false := by decide)
    (he : starEach (e :: es) X.env = (false, eval e X.env) :: starEach es X.env := by rfl) (hpl : (backTo pos (starEach es X.env)).any (·.1) = false := by rfl) :
    PE X (.Call (.Name x p1) (e :: es) [] pos) (fun σ H Q => Sat ρ σ H ∧ SrcH X.prog X.w p c H ∧ ∀ zs, S zs → ∀ q xs H', H q = none → Same H H' → H' q = some (.lst xs) → RpA H' zs xs → Q (.ref q) H') := by
  obtain ⟨f, fd, G, hm, hk, hb⟩ := C.ex
  exact PE_imp (pe_call G (hr.mono hkj) hg hm hk hb .nil pass0 ha hdb he hpl) fun σ H Q ⟨s, SS, q⟩ => ⟨s, fun vs H1 e1 r1 => by
    show spN X.prog X.w R (vs ++ []) H1 Q E0
    rw [List.append_nil]
    exact ⟨p, c, ds, S, hR, r1, SS.mono e1, fun zs hz q' xs H' n e2 h r2 => q zs hz q' xs H' (back_none e1 n) (e1.trans e2) h r2⟩⟩
end
section
variable {P : Program} {w : World} {K : PySem.W.Frag} {mg : Str → Option Value} {base : Heap} {C : Addr}
theorem okN {x : String} {st : Stmt} {N ps : List Str} {k : Nat} {R : List PyData → (List PyData → Prop) → Prop} (F : Has K mg x st ps) (S : FnScope N ps (defScope st)) (len : ∀ ds T, R ds T → ds.length + 1 = ps.length)
    (body : ∀ (f : Addr) (cdv : Value) (A : Around) (outer : List PySem.Env) (s : Shared) (H : Hp) (E : XK) (p c : Addr) (ds : List PyData) (T : List PyData → Prop), Room k (A.deeper (envOfC x (defScope st) s.heap.objs.size f cdv)) → R ds T → SrcH P w p c H →
      HSs (cxOf CX0 P w K mg base N x (defScope st) f cdv A outer s H E).nox (defBody st) (At H (st0 N (srcD p c :: ds))) { nx := fun _ _ => False, rt := fun v H' => ∃ es, T es ∧ RetL H es v H' }) : Cal P w K mg base CX0 (k + 1) x ps (spN P w R) := by
  obtain ⟨f, fd, F, hm, hb⟩ := F.ex
  refine ⟨f, fd, F.ok S (fun vs H Q E ⟨p, c, ds, T, hR, r, _⟩ => by rw [r.length, ← len ds T hR]; rfl) (fun cdv A outer s H vs Q E hr ⟨p, c, ds, T, hR, r, SS, q⟩ => ⟨_, body f cdv A outer s H E p c ds T hr hR SS, ⟨Same.refl H, sat_start r⟩, ?_⟩), hm, F.kp, hb⟩
  exact ⟨fun σ H' h => h.elim, fun v H' ⟨es, hes, ⟨q', xs, h1, h2, h3, h4, h5⟩⟩ => by rw [h1]; exact q es hes q' xs H' h2 h3 h4 h5, fun _ _ h => h.elim, fun _ _ h => h.elim⟩
def sGr (n : Nat) (es : List PyData) : Prop := ∃ a b d : Nat, a + b + d = fullN n ∧ es = [nat a, nat b, nat d]
def rGroups (ds : List PyData) (S : List PyData → Prop) : Prop := ∃ n : Nat, n ≤ 6 ∧ ds = [nat n] ∧ S = sGr n
theorem sum_set : ∀ {l : List Nat} {r x s : Nat}, l[r]? = some x → (l.set r (x + s)).sum = l.sum + s
  | [], _, _, _, h => by simp at h
  | y :: l, 0, x, s, h => by
    have e : y = x := by simpa using h
    subst e
    rw [List.set_cons_zero, List.sum_cons, List.sum_cons]
    omega
  | y :: l, r + 1, x, s, h => by
    rw [List.set_cons_succ, List.sum_cons, List.sum_cons, sum_set (l := l) (by simpa using h)]
    omega
theorem ok_groups (B : Bi mg) (F : Has K mg "_law_groups" sGroups ["_law_source", "_law_n"]) (C1 : Cal P w K mg base CX0 1 "_law_draw" ["_law_source", "_law_top"] (spDr P w)) : Cal P w K mg base CX0 2 "_law_groups" ["_law_source", "_law_n"] (spN P w rGroups) := by
  refine okN F scGroups (fun ds d ⟨_, _, h, _⟩ => by rw [h]; rfl) fun f cdv A outer s H E p c ds T hr hR S => ?_
  obtain ⟨n, hn, rfl, rfl⟩ := hR
  refine hs_seq (hs_newM (i := 2) (es := [nat 0, nat 0, nat 0]) scGroups.nd (dl_lst (da_cons (de_k 0) (da_cons (de_k 0) (da_one (de_k 0))))) rfl (by simp [st0])) ?_
  refine hs_seq (hs_setM (i := 3) (d := nat 1) scGroups.nd (de_k 1) (imm_nat _)) ?_
  let ρ : Nat → Pz.Env := fun j => [some (srcD p c), some (nat n), none, some (nat (2 ^ j)), none, none]
  refine hs_seq (M := fun σ H' => ∃ l : List Nat, (l.length = 3 ∧ l.sum + 1 = 2 ^ n) ∧ AtM H 2 (l.map nat) (ρ n) σ H') ?_ (hss_ex fun l => hss_fact fun ⟨hl, hs⟩ => hs_one (hs_retM (k := 2) fun v H' q => ⟨_, ?_, q⟩))
  rotate_left
  · match l, hl with
    | [a, b, d], _ => exact ⟨a, b, d, by have := full_succ n; simp at hs; omega, rfl⟩
  refine hs_forI (i := 4) (n := n) (ρ := [some (srcD p c), some (nat n), some (.list [nat 0, nat 0, nat 0]), some (nat 1), none, none]) (I := fun j σ H' => ∃ l : List Nat, (l.length = 3 ∧ l.sum + 1 = 2 ^ j) ∧ AtM H 2 (l.map nat) (ρ j) σ H') PassesOwn.never rfl (dr_1 B.range (dv 1) (by omega)) (pg_name (i := 4) scGroups.nd rfl (by first | exact .inl rfl | exact .inr rfl)) (fun σ H' q => q.sat)
    (fun σ H' H2 q e => ⟨[0, 0, 0], ⟨rfl, rfl⟩, (atm_stab _ _ _ q e).fgt (fgt_of (by simp [fgtB, ρ, st0]))⟩) (fun j hj => ?_) (fun _ _ q => q)
  refine hss_pre (P := fun σ H' => ∃ l : List Nat, (l.length = 3 ∧ l.sum + 1 = 2 ^ j) ∧ AtM H 2 (l.map nat) ((ρ j).set 4 (some (nat j))) σ H') (hss_ex fun l => hss_fact fun ⟨hl, hs⟩ => ?_) fun σ H' ⟨σ0, e, l, hl, q⟩ => ⟨l, hl, by rw [e]; exact q.seti (by decide)⟩
  refine hs_seq (M := fun σ H' => ∃ r : Nat, r < 3 ∧ AtM H 2 (l.map nat) (((ρ j).set 4 (some (nat j))).set 5 (some (nat r))) σ H') (hs_draw (i := 5) (p := p) (c := c) (top := 3) (ρ := ((ρ j).set 4 (some (nat j))).set 2 (some (.list (l.map nat)))) scGroups.nd (pe_draw C1 hr (by decide) (dv 0) (de_k 3) (by decide) (by decide)) (fun σ H' q => ⟨q.sat, S.mono q.same⟩)
    fun σ H' r H2 q e hr' => ⟨r, hr', (atm_stab _ _ _ q e).seti (by decide)⟩) (hss_ex fun r => hss_fact fun hr3 => ?_)
  obtain ⟨x, hx⟩ : ∃ x, l[r]? = some x := ⟨_, List.getElem?_eq_getElem (by omega)⟩
  refine hs_seq (hs_item (k := 2) (j := r) (d := nat (x + 2 ^ j)) (de_op op_add (de_ix ix_list (dv 2) (dv 5) (r2_ixL (k := r) (d := nat x) rfl (by rw [List.getElem?_map, hx] <;> rfl))) (dv 3) r2_addN) (imm_nat _) (dv 5) (by rw [List.length_map]; omega)) ?_
  refine hs_one (hs_setG (i := 3) scGroups.nd rfl (by first | exact .inl rfl | exact .inr rfl) (de_op op_mul (dv 3) (de_k 2) (r2_mulN (by decide))) (fun _ _ q => q.sat) fun σ H' v H2 q e r' => ⟨l.set r (x + 2 ^ j), ⟨by rw [List.length_set]; exact hl, by rw [sum_set hx, Nat.pow_succ]; omega⟩, ?_⟩)
  obtain ⟨a, xs, h1, h2, h3, h4, h5⟩ := atm_stab _ _ _ q e
  rw [List.map_set]
  refine ⟨a, xs, by rw [List.getElem?_set_ne (by decide)]; exact h1, h2, h3, h4, ?_⟩
  exact (h5.set (Rp.del h2 (imm_nat _) r')).fgt (fgt_of (by simp [fgtB, ρ, Nat.pow_succ]))
end
end Kp

set_option Elab.async false
set_option linter.all false
set_option maxRecDepth 100000
set_option maxHeartbeats 4000000
namespace Kp
open PySem PySem.Spec PyProof.Rows L2 Pz
section
variable {X : Cx} {ρ : Pz.Env} {elt iter : Expr} {scope : Scope} {pos p0 : Pos} {x : Str} {i top : Nat} {α : Type} {xs : List α} {enc : α → PyData} {p c : Addr}
def lcN (P : Program) (w : World) (p c : Addr) (top : Nat) (ρ : Pz.Env) (i : Nat) (enc : α → PyData) (xs : List α) : TE := fun σ H Q => ∃ a, a ∈ xs ∧ Sat ((ρ.set i none).set i (some (enc a))) σ H ∧ SrcH P w p c H ∧ ∀ (r : Nat) H', r < top → Same H H' → Q (.int (r : Int)) H'
def tMs (P : Program) (w : World) (p c : Addr) (top n : Nat) (ρ : Pz.Env) : TE := fun σ H Q => Sat ρ σ H ∧ SrcH P w p c H ∧ ∀ ms : List Nat, ms.length = n → (∀ m ∈ ms, m < top) → ∀ q ys H', H q = none → Same H H' → H' q = some (.lst ys) → RpA H' (ms.map nat) ys → Q (.ref q) H'
theorem lcN_imp {P : Program} {w : World} (hl : xs.length ≤ 1000) (σ : L2.St) (H : Hp) (Q : VK) (h : tMs P w p c top xs.length ρ σ H Q) : tLc (iD ρ (xs.map enc)) (gName i) tYes (lcN P w p c top ρ i enc xs) [i] σ H Q := by
  obtain ⟨sat, S, k⟩ := h
  refine ⟨sat, fun J H1 e1 sv D hD => ?_⟩
  have sat1 : Sat (ρ.set i none) (wipe σ [i]) H1 := (sat.mono e1).wipe [i]
  refine ⟨fun n m H' => n + m = xs.length ∧ ∃ ms : List Nat, ms.length = n ∧ (∀ m ∈ ms, m < top) ∧ LcAt H1 D (ms.map nat) H', ⟨xs.length, by omega, [], rfl, fun _ z => by simp at z, hD, ?_, [], upd_same, rpa_nil⟩, fun n m H' hw => ?_⟩
  · rw [del_upd, del_none hD]; exact Same.refl H1
  obtain ⟨hnm, ms, hms, hb, h1, h2, acc, h3, h4⟩ := hw
  have e2 : Same H1 H' := h2.trans same_del
  by_cases hn : n < xs.length
  · have hd : xs[n]? = some xs[n] := List.getElem?_eq_getElem hn
    have hmem : xs[n] ∈ xs := List.getElem_mem hn
    obtain ⟨go, yl⟩ := (sv H' e2).1 n (enc xs[n]) (by rw [List.getElem?_map, hd]; rfl)
    refine .inr ⟨go, fun H3 => ∃ ms : List Nat, ms.length = n + 1 ∧ (∀ m ∈ ms, m < top) ∧ LcAt H1 D (ms.map nat) H3, fun H3 q => ⟨m - 1, by omega, by omega, q⟩, fun v H3 hy => ?_⟩
    obtain ⟨rfl, rv⟩ := yl v H3 hy
    have satv : Sat ((ρ.set i none).set i (some (enc xs[n]))) ((wipe σ [i]).set i (some v)) H3 := (sat1.mono e2).set rv
    refine ⟨?_, ?_⟩
    · show (((σ.set i none).set i (some v)).set i none) = σ.set i none
      rw [List.set_set, List.set_set]
    · refine ⟨xs[n], hmem, satv, S.mono (e1.trans e2), fun r H5 hr e5 => ⟨acc, e5 _ _ h3, small1000 (by rw [h4.length, List.length_map]; omega), ms ++ [r], by simp [hms], fun m hm => ?_, ?_⟩⟩
      · rcases List.mem_append.mp hm with hm | hm
        · exact hb m hm
        · rw [List.mem_singleton.mp hm]; exact hr
      · rw [List.map_append]
        exact lcat_more h1 (h2.trans (del_mono e5)) (e5 _ _ h3) (RpA.mono (del_mono (a := D) e5) _ _ h4) (imm_nat r) (rp_int _)
  · have en : n = xs.length := by omega
    subst en
    have st := (sv H' e2).2
    rw [List.length_map] at st
    exact .inl ⟨st, k ms hms hb D acc H' (back_none e1 h1) (e1.trans e2) h3 (RpA.mono same_del _ _ h4)⟩
/-- y = [draw(source, ..) for x in ..] -/
theorem pl_draws {y : Str} {j : Nat} {py spos : Pos} (hc : X.calm = true) (hN : X.N.Nodup) (hit : DI X (.Name x p0) iter ρ (xs.map enc)) (hl : xs.length ≤ 1000)
    (he : ∀ (s : Shared) (H : Hp) (C : Addr) (cl : List (Str × Addr)) (fp : List Addr) (a : α), a ∈ xs → PE (X.blk s H scope (compEnvC scope cl C X.env) fp) elt (fun σ H Q => Sat ((ρ.set i none).set i (some (enc a))) σ H ∧ SrcH X.prog X.w p c H ∧ ∀ (r : Nat) H', r < top → Same H H' → Q (.int (r : Int)) H'))
    (hi : X.N[i]? = some x := by rfl) (hlk : Loc (relS scope X.env.scope) x := by first | exact .inl rfl | exact .inr rfl) (hlf : ∀ (s : Shared) (H : Hp) (C : Addr) (cl : List (Str × Addr)) (fp : List Addr), (X.blk s H scope (compEnvC scope cl C X.env) fp).fn x = true ∨ (X.blk s H scope (compEnvC scope cl C X.env) fp).env.scope.names.lookup x = some .local := by intro _ _ _ _ _; first | exact .inl rfl | exact .inr rfl)
    (ok : blkC X.N X.env.scope scope [(x, i)] = true := by kernel_rfl) (hy : X.N[j]? = some y := by rfl) (hyl : X.env.scope.names.lookup y = some .local := by rfl)
    (hsw : swapsWith (.ListComp elt [⟨.Name x p0, iter, [], 0⟩] scope pos) (some (.Name y py)) spos.line X.env = pure true := by exact sw_true rfl rfl rfl (by decide +kernel)) (hs : ∀ x, foldedSetIterable iter X.env x = pure x := by intro _; rfl) :
    PS X (.Assign [.Name y py] (.ListComp elt [⟨.Name x p0, iter, [], 0⟩] scope pos) spos) (tAsg (tMs X.prog X.w p c top xs.length ρ) (gName j)) :=
  PS_imp (ps_setLc (X := X) (g := gName i) (pos := pos) (tt := tYes) (te := lcN X.prog X.w p c top ρ i enc xs) hc hN hy hyl hsw hit (blkOk_by ok) (fun s H C cl fp => pg_name hN hi hlk (hlf s H C cl fp)) (fun _ _ _ _ _ => pts_nil)
    (fun s H C cl fp => ⟨fun pins s' σ H' Q I q => by obtain ⟨d, m, q⟩ := q; exact (he s H C cl fp d m).run pins s' σ H' Q I q⟩) hs) fun D σ H h => lcN_imp hl σ H _ h
end
def sDr (n : Nat) (es : List PyData) : Prop := ∃ marks : List Nat, es = marks.map nat ∧ marks ≠ [] ∧ marks.length ≤ 30 ∧ ∀ m ∈ marks, m < 2 ^ n
def rDrawn (ds : List PyData) (S : List PyData → Prop) : Prop := ∃ n : Nat, 1 ≤ n ∧ n ≤ 6 ∧ ds = [nat n] ∧ S = sDr n
theorem few_count : ∀ n < 7, ∀ few < n + 1, ((List.range (2 ^ n)).filter fun m => onesN n m == few).length ≤ 30 ∧ ((List.range (2 ^ n)).filter fun m => onesN n m == few) ≠ [] := by decide +kernel
section
variable {P : Program} {w : World} {K : PySem.W.Frag} {mg : Str → Option Value} {base : Heap} {C : Addr}
theorem ok_drawn (B : Bi mg) (F : Has K mg "_law_drawn_marks" sDrawn ["_law_source", "_law_n"]) (C1 : Cal P w K mg base CX0 1 "_law_draw" ["_law_source", "_law_top"] (spDr P w)) (C2 : Cal P w K mg base CX0 2 "_law_groups" ["_law_source", "_law_n"] (spN P w rGroups))
    (C3 : Cal P w K mg base CX0 1 "_law_full" ["_law_n"] (spD rFull)) (C4 : Cal P w K mg base CX0 2 "_law_ones" ["_law_n", "_law_mark"] (spD rOnes)) : Cal P w K mg base CX0 3 "_law_drawn_marks" ["_law_source", "_law_n"] (spN P w rDrawn) := by
  refine okN F scDrawn (fun ds d ⟨_, _, _, h, _⟩ => by rw [h]; rfl) fun f cdv A outer s H E p c ds T hr hR S => ?_
  obtain ⟨n, hn1, hn, rfl, rfl⟩ := hR
  have h2n := p26 hn
  have hfs := full_succ n
  refine hs_seq (hs_set (i := 2) scDrawn.nd (de_call C3 hr (by decide) (da_one (dv 1)) ⟨n, hn, rfl, rfl⟩)) ?_
  refine hs_seq (M := fun σ H' => ∃ how : Nat, how < 8 ∧ At H [some (srcD p c), some (nat n), some (nat (fullN n)), some (nat how), none, none, none, none, none] σ H')
    (hs_draw (i := 3) (p := p) (c := c) (top := 8) (ρ := [some (srcD p c), some (nat n), some (nat (fullN n)), none, none, none, none, none, none]) scDrawn.nd (pe_draw C1 hr (by decide) (dv 0) (de_k 8) (by decide) (by decide)) (fun σ H' q => ⟨q.2, S.mono q.1⟩)
      fun σ H' r H2 q e hr' => ⟨r, hr', q.1.trans e, Sat.set (i := 3) (q.2.mono e) (rp_int _)⟩) (hss_ex fun how => hss_fact fun hhow => ?_)
  refine hs_seq (M := fun σ H' => ∃ few : Nat, few < n + 1 ∧ At H [some (srcD p c), some (nat n), some (nat (fullN n)), some (nat how), some (nat few), none, none, none, none] σ H')
    (hs_draw (i := 4) (p := p) (c := c) (top := n + 1) (ρ := [some (srcD p c), some (nat n), some (nat (fullN n)), some (nat how), none, none, none, none, none]) scDrawn.nd (pe_draw C1 hr (by decide) (dv 0) (de_op op_add (dv 1) (de_k 1) r2_addN) (by omega) (by omega)) (fun σ H' q => ⟨q.2, S.mono q.1⟩)
      fun σ H' r H2 q e hr' => ⟨r, hr', q.1.trans e, Sat.set (i := 4) (q.2.mono e) (rp_int _)⟩) (hss_ex fun few => hss_fact fun hfew => ?_)
  refine hs_seq (M := fun σ H' => ∃ z : Nat × Nat × Nat, z.1 + z.2.1 + z.2.2 = fullN n ∧ At H [some (srcD p c), some (nat n), some (nat (fullN n)), some (nat how), some (nat few), some (.list [nat z.1, nat z.2.1, nat z.2.2]), none, none, none] σ H')
    (PS_imp (ps_set (i := 5) scDrawn.nd rfl (by first | exact .inl rfl | exact .inr rfl) (pe_callN (p := p) (c := c) (ρ := [some (srcD p c), some (nat n), some (nat (fullN n)), some (nat how), some (nat few), none, none, none, none]) C2 hr (by decide) (da_cons (dv 0) (da_one (dv 1))) ⟨n, hn, rfl, rfl⟩))
      fun D σ H' ⟨q, l⟩ => ⟨q.2, S.mono q.1, fun zs ⟨a, b, d, hz, ez⟩ q' xs H2 _ e g r => l.1 _ _ ⟨(a, b, d), hz, q.1.trans e, Sat.set (i := 5) (q.2.mono e) (rp_lst g (by rw [← ez]; exact r))⟩⟩) (hss_ex fun ⟨a, b, d⟩ => hss_fact fun habd => ?_)
  have habd' : a + b + d = fullN n := habd
  refine hs_seq (M := fun σ H' => ∃ ms : List Nat, (ms.length = 4 ∧ ∀ m ∈ ms, m < 2 ^ n) ∧ At H [some (srcD p c), some (nat n), some (nat (fullN n)), some (nat how), some (nat few), some (.list [nat a, nat b, nat d]), some (.list (ms.map nat)), none, none] σ H')
    (PS_imp (pl_draws (p := p) (c := c) (top := 2 ^ n) (i := 7) (j := 6) (xs := List.range 4) (enc := nat) (ρ := [some (srcD p c), some (nat n), some (nat (fullN n)), some (nat how), some (nat few), some (.list [nat a, nat b, nat d]), none, none, none]) rfl scDrawn.nd (di_r1 B.range (de_k 4) (by decide)) (by decide)
      (fun _ _ _ _ _ k _ => pe_draw C1 hr (by decide) (dv 0) (de_of (de_op op_add (dv 2) (de_k 1) r2_addN) (by rw [hfs])) (by omega) (by omega)))
      fun D σ H' ⟨q, l⟩ => ⟨q.2, S.mono q.1, fun ms hl hb q' xs H2 _ e g r => l.1 _ _ ⟨ms, ⟨hl, hb⟩, q.1.trans e, Sat.set (i := 6) (q.2.mono e) (rp_lst g r)⟩⟩) (hss_ex fun ms => hss_fact fun ⟨hl, hb⟩ => ?_)
  obtain ⟨x0, x1, x2, x3, rfl⟩ : ∃ x0 x1 x2 x3, ms = [x0, x1, x2, x3] := by
    match ms, hl with
    | [x0, x1, x2, x3], _ => exact ⟨x0, x1, x2, x3, rfl⟩
  have b0 : x0 < 2 ^ n := hb x0 (by simp)
  have b1 : x1 < 2 ^ n := hb x1 (by simp)
  have b2 : x2 < 2 ^ n := hb x2 (by simp)
  have b3 : x3 < 2 ^ n := hb x3 (by simp)
  have and_lt : ∀ {u v : Nat}, u < 2 ^ n → u &&& v < 2 ^ n := fun {u v} h => Nat.lt_of_le_of_lt Nat.and_le_left h
  have ok : ∀ marks : List Nat, marks ≠ [] → marks.length ≤ 30 → (∀ m ∈ marks, m < 2 ^ n) → sDr n (marks.map nat) := fun marks h1 h2 h3 => ⟨marks, rfl, h1, h2, h3⟩
  let ρ : Pz.Env := [some (srcD p c), some (nat n), some (nat (fullN n)), some (nat how), some (nat few), some (.list [nat a, nat b, nat d]), some (.list [nat x0, nat x1, nat x2, nat x3]), none, none]
  show HSs _ _ (At H ρ) _
  refine hs_seq (hs_guard (dt_cmp op_eq (dv 3) (de_k 0) r2_eqN) (fun _ => hs_one (hs_retL (dl_lst (da_cons (de_op op_add (de_ix ix_list (dv 5) (de_k 0) (r2_ixL (k := 0) (d := nat a) rfl rfl)) (de_ix ix_list (dv 5) (de_k 1) (r2_ixL (k := 1) (d := nat b) rfl rfl)) r2_addN) (da_cons (de_op op_add (de_ix ix_list (dv 5) (de_k 1) (r2_ixL (k := 1) (d := nat b) rfl rfl)) (de_ix ix_list (dv 5) (de_k 2) (r2_ixL (k := 2) (d := nat d) rfl rfl)) r2_addN) (da_one (de_ix ix_list (dv 5) (de_k 2) (r2_ixL (k := 2) (d := nat d) rfl rfl))))))
    fun v H' q => ⟨_, ok [a + b, b + d, d] (by simp) (by simp) (fun m hm => by simp at hm; omega), q⟩))) (hss_fact fun _ => ?_)
  refine hs_seq (hs_guard (dt_cmp op_eq (dv 3) (de_k 1) r2_eqN) (fun _ => hs_one (hs_retL (dl_lst (da_cons (de_ix ix_list (dv 5) (de_k 0) (r2_ixL (k := 0) (d := nat a) rfl rfl)) (da_cons (de_ix ix_list (dv 5) (de_k 1) (r2_ixL (k := 1) (d := nat b) rfl rfl)) (da_cons (de_ix ix_list (dv 5) (de_k 2) (r2_ixL (k := 2) (d := nat d) rfl rfl)) (da_one (de_op op_and (de_ix ix_list (dv 6) (de_k 0) (r2_ixL (k := 0) (d := nat x0) rfl rfl)) (de_ix ix_list (dv 6) (de_k 1) (r2_ixL (k := 1) (d := nat x1) rfl rfl)) r2_andN))))))
    fun v H' q => ⟨_, ok [a, b, d, x0 &&& x1] (by simp) (by simp) (fun m hm => by have := and_lt (v := x1) b0; simp at hm; omega), q⟩))) (hss_fact fun _ => ?_)
  refine hs_seq (hs_guard (dt_cmp op_eq (dv 3) (de_k 2) r2_eqN) (fun _ => hs_one (hs_retL (dl_lst (da_cons (de_ix ix_list (dv 6) (de_k 0) (r2_ixL (k := 0) (d := nat x0) rfl rfl)) (da_one (de_op op_sub (dv 2) (de_ix ix_list (dv 6) (de_k 0) (r2_ixL (k := 0) (d := nat x0) rfl rfl)) (r2_subN (by omega))))))
    fun v H' q => ⟨_, ok [x0, fullN n - x0] (by simp) (by simp) (fun m hm => by simp at hm; omega), q⟩))) (hss_fact fun _ => ?_)
  have b12 := and_lt (v := x2) b1
  refine hs_seq (hs_guard (dt_cmp op_eq (dv 3) (de_k 3) r2_eqN) (fun _ => hs_one (hs_retL (dl_lst (da_cons (de_ix ix_list (dv 6) (de_k 0) (r2_ixL (k := 0) (d := nat x0) rfl rfl)) (da_cons (de_op op_sub (dv 2) (de_ix ix_list (dv 6) (de_k 0) (r2_ixL (k := 0) (d := nat x0) rfl rfl)) (r2_subN (by omega))) (da_cons (de_ix ix_list (dv 6) (de_k 1) (r2_ixL (k := 1) (d := nat x1) rfl rfl))
      (da_one (de_op op_sub (dv 2) (de_op op_and (de_ix ix_list (dv 6) (de_k 1) (r2_ixL (k := 1) (d := nat x1) rfl rfl)) (de_ix ix_list (dv 6) (de_k 2) (r2_ixL (k := 2) (d := nat x2) rfl rfl)) r2_andN) (r2_subN (by omega))))))))
    fun v H' q => ⟨_, ok [x0, fullN n - x0, x1, fullN n - (x1 &&& x2)] (by simp) (by simp) (fun m hm => by simp at hm; omega), q⟩))) (hss_fact fun _ => ?_)
  obtain ⟨fc1, fc2⟩ := few_count n (by omega) few hfew
  refine hs_seq (hs_guard (dt_cmp op_eq (dv 3) (de_k 4) r2_eqN) (fun _ => hs_one (hs_retL (dl_lc (xs := List.range (2 ^ n)) (enc := nat) (i := 8) (fun m => onesN n m == few) nat rfl scDrawn.nd (di_r1 B.range (de_of (de_op op_add (dv 2) (de_k 1) r2_addN) (by rw [hfs])) (by omega))
      (fun _ _ _ _ _ m _ => dts_one (dt_cmp op_eq (de_call C4 hr (by decide) (da_cons (dv 1) (da_one (dv 8))) ⟨n, m, hn, rfl, rfl⟩) (dv 4) r2_eqN)) (fun _ _ _ _ _ m _ _ => dv 8) (fun _ _ _ => imm_nat _) (by simp; omega))
    fun v H' q => ⟨_, ok _ fc2 fc1 (fun m hm => List.mem_range.mp (List.mem_filter.mp hm).1), q⟩))) (hss_fact fun _ => ?_)
  refine hs_seq (hs_guard (dt_cmp op_eq (dv 3) (de_k 5) r2_eqN) (fun _ => hs_one (PS_imp (ps_ret (pe_lst (pa_cons (pe_ix ix_list (dl_lst (ρ := ρ) (da_cons (dv 2) (da_cons (de_k 0) (da_one (de_ix ix_list (dv 6) (de_k 0) (r2_ixL (k := 0) (d := nat x0) rfl rfl)))))) (pe_draw (ρ := ρ) (p := p) (c := c) (top := 3) C1 hr (by decide) (dv 0) (de_k 3) (by decide) (by decide)) (fun _ _ => rfl)) pa_nil))) fun D σ H' ⟨q, l⟩ => ?_))) (hss_fact fun _ => ?_)
  · refine ⟨q.2, fun q1 ys H2 n1 e1 g1 r1 => ⟨q.2.mono e1, S.mono (q.1.trans e1), fun r H3 hr3 e3 => ?_⟩⟩
    obtain ⟨d0, hd0, hlt⟩ : ∃ d0 : Nat, ([nat (fullN n), nat 0, nat x0] : List PyData)[r]? = some (nat d0) ∧ d0 < 2 ^ n := by
      match r, hr3 with
      | 0, _ => exact ⟨_, rfl, by omega⟩
      | 1, _ => exact ⟨0, rfl, by omega⟩
      | 2, _ => exact ⟨x0, rfl, b0⟩
    obtain ⟨v, hv1, hv2⟩ := r1.get hd0
    refine ⟨q1, ys, (r : Int), v, rfl, rfl, SqL.of (e3 _ _ g1), atI_nat hv1, small1000 (by simp), fun q2 hq2 => l.2.1 _ _ ⟨[nat d0], ok [d0] (by simp) (by simp) (fun m hm => by simp at hm; omega), q2, [v], rfl, (q.1.trans (e1.trans e3)).free hq2, (q.1.trans (e1.trans e3)).trans (same_new hq2), upd_same, rpa_cons ?_ rpa_nil⟩⟩
    rw [hv2.isInt]; exact rp_int _
  refine hs_seq (hs_guard (dt_cmp op_eq (dv 3) (de_k 6) r2_eqN) (fun _ => hs_one (hs_retL (dl_lst (da_cons (de_op op_add (de_ix ix_list (dv 5) (de_k 0) (r2_ixL (k := 0) (d := nat a) rfl rfl)) (de_ix ix_list (dv 5) (de_k 1) (r2_ixL (k := 1) (d := nat b) rfl rfl)) r2_addN) (da_cons (de_op op_add (de_ix ix_list (dv 5) (de_k 0) (r2_ixL (k := 0) (d := nat a) rfl rfl)) (de_ix ix_list (dv 5) (de_k 2) (r2_ixL (k := 2) (d := nat d) rfl rfl)) r2_addN)
      (da_cons (de_op op_add (de_ix ix_list (dv 5) (de_k 1) (r2_ixL (k := 1) (d := nat b) rfl rfl)) (de_ix ix_list (dv 5) (de_k 2) (r2_ixL (k := 2) (d := nat d) rfl rfl)) r2_addN) (da_one (de_op op_and (de_ix ix_list (dv 6) (de_k 3) (r2_ixL (k := 3) (d := nat x3) rfl rfl)) (de_ix ix_list (dv 6) (de_k 2) (r2_ixL (k := 2) (d := nat x2) rfl rfl)) r2_andN))))))
    fun v H' q => ⟨_, ok [a + b, a + d, b + d, x3 &&& x2] (by simp) (by simp) (fun m hm => by have := and_lt (v := x2) b3; simp at hm; omega), q⟩))) (hss_fact fun _ => ?_)
  refine hs_one (PS_imp (ps_ret (pe_op op_cat (pe_slice sl_list (dv (ρ := ρ) (d := .list [nat x0, nat x1, nat x2, nat x3]) 6) po_none (po_some (pe_op op_add (de_k (ρ := ρ) 1) (pe_draw (ρ := ρ) (p := p) (c := c) (top := 4) C1 hr (by decide) (dv 0) (de_k 4) (by decide) (by decide)))))
    (dl_lst (ρ := ρ) (da_one (de_op op_sub (dv 2) (de_ix ix_list (dv 6) (de_k 0) (r2_ixL (k := 0) (d := nat x0) rfl rfl)) (r2_subN (by omega))))))) fun D σ H' ⟨q, l⟩ => ?_)
  refine ⟨q.2, fun v H2 e2 r2 => ⟨q.2.mono e2, fun u H3 e3 r3 => ⟨q.2.mono (e2.trans e3), S.mono (q.1.trans (e2.trans e3)), fun r H4 hr4 e4 => ⟨1, (r : Int), r3.isInt, rfl, (1 + (r : Int)), rfl, ?_⟩⟩⟩⟩
  obtain ⟨q1, ys, rfl, g1, g2⟩ := r2.isLst
  have e24 := e3.trans e4
  have yl : ys.length = 4 := g2.length
  refine ⟨q1, ys, rfl, SqL.of (e24 _ _ g1), fun q2 hq2 => ⟨(q.2.mono (e2.trans e24)).mono (same_new hq2), fun q3 zs H5 n5 e5 g5 r5 => ?_⟩⟩
  have hcut : cutV ys none (some (1 + (r : Int))) = ys.take (1 + r) := by
    unfold cutV
    rw [HT.sIx_none, show (1 + (r : Int)) = ((1 + r : Nat) : Int) by omega, HT.sIx_nat, List.drop_zero, yl, Nat.min_eq_left (by omega), Nat.sub_zero]
  have g4 : RpA H5 (([nat x0, nat x1, nat x2, nat x3] : List PyData).take (1 + r)) (ys.take (1 + r)) := RpA.mono ((e24.trans (same_new hq2)).trans e5) _ _ (g2.take _)
  refine ⟨q2, q3, ys.take (1 + r), zs, rfl, rfl, by rw [← hcut]; exact e5 _ _ upd_same, g5, Nat.le_of_lt (small1000 (by rw [List.length_take, r5.length]; simp; omega)), fun q4 hq4 => l.2.1 _ _ ⟨(([x0, x1, x2, x3].take (1 + r)) ++ [fullN n - x0]).map nat, ok _ (by simp) (by simp; omega) (fun m hm => ?_), q4, _, rfl, ?_, ?_, upd_same, ?_⟩⟩
  · rcases List.mem_append.mp hm with hm | hm
    · exact hb m (List.mem_of_mem_take hm)
    · rw [List.mem_singleton.mp hm]; omega
  · exact ((q.1.trans (e2.trans e24)).trans ((same_new hq2).trans e5)).free hq4
  · exact ((q.1.trans (e2.trans e24)).trans ((same_new hq2).trans e5)).trans (same_new hq4)
  · rw [List.map_append, List.map_take]
    exact RpA.mono (same_new hq4) _ _ (RpA.append g4 r5)
end
end Kp

set_option Elab.async false
set_option linter.all false
set_option maxRecDepth 100000
set_option maxHeartbeats 4000000
namespace Kp
open PySem PySem.Spec PyProof.Rows L2 Pz
def pairD (z : Nat × Nat) : PyData := .tuple [nat z.1, nat z.2]
theorem imm_pair (z : Nat × Nat) : imm (pairD z) = true := by simp [pairD, imm, immA, nat]
structure Prs (n k : Nat) (l : List (Nat × Nat)) : Prop where
  all : ∀ z ∈ l, z.1 < n ∧ z.2 < n ∧ z.1 ≠ z.2
  len : l.length ≤ k
theorem Prs.mono {n j k : Nat} {l : List (Nat × Nat)} (h : Prs n j l) (e : j ≤ k) : Prs n k l := ⟨h.all, Nat.le_trans h.len e⟩
theorem Prs.more {n k a b : Nat} {l : List (Nat × Nat)} (h : Prs n k l) (ha : a < n) (hb : b < n) (ne : a ≠ b) : Prs n (k + 1) (l ++ [(a, b)]) := ⟨fun z hz => by
  rcases List.mem_append.mp hz with hz | hz
  · exact h.all z hz
  · rw [List.mem_singleton.mp hz]; exact ⟨ha, hb, ne⟩, by have := h.len; rw [List.length_append]; simp; exact this⟩
def sPr (n : Nat) (es : List PyData) : Prop := ∃ l : List (Nat × Nat), Prs n 36 l ∧ es = l.map pairD
def rPairs (ds : List PyData) (S : List PyData → Prop) : Prop := ∃ n : Nat, n ≤ 6 ∧ ds = [nat n] ∧ S = sPr n
section
variable {X : Cx} {ρ : Pz.Env} {c0 : Expr} {pos : Pos} {P : As} {Z : Ends} {p c : Addr} {C : Bool → Prop} {A : List Stmt}
/-- an if whose test may fall either way -/
theorem hs_ifN (hc : PT X c0 (fun σ H Q => Sat ρ σ H ∧ SrcH X.prog X.w p c H ∧ ∀ b H', C b → Same H H' → Q b H')) (hP : ∀ σ H, P σ H → Sat ρ σ H ∧ SrcH X.prog X.w p c H) (hst : Stab P) (h1 : C true → HSs X A P Z) (h2 : ∀ σ H, P σ H → Z.nx σ H) : HS X (.If c0 A [] pos) P Z := by
  have h1' : HSs X A (fun σ H => C true ∧ P σ H) Z := hss_fact h1
  refine PS_imp (ps_if hc h1' (hs_nil (P := P) (Z := Z) h2)) fun D σ H ⟨q, l⟩ => ⟨(hP σ H q).1, (hP σ H q).2, fun b H' hb e => ?_⟩
  cases b with
  | true => exact iteT ⟨⟨hb, hst σ H H' q e⟩, l⟩
  | false => exact iteF ⟨hst σ H H' q e, l⟩
end
section
variable {P : Program} {w : World} {K : PySem.W.Frag} {mg : Str → Option Value} {base : Heap} {C : Addr}
theorem ok_pairs (B : Bi mg) (F : Has K mg "_law_pairs" sPairs ["_law_source", "_law_n"]) (C1 : Cal P w K mg base CX0 1 "_law_draw" ["_law_source", "_law_top"] (spDr P w)) : Cal P w K mg base CX0 2 "_law_pairs" ["_law_source", "_law_n"] (spN P w rPairs) := by
  refine okN F scPairs (fun ds d ⟨_, _, h, _⟩ => by rw [h]; rfl) fun f cdv A outer s H E p c ds T hr hR S => ?_
  obtain ⟨n, hn, rfl, rfl⟩ := hR
  refine hs_seq (hs_newM (i := 2) (es := []) scPairs.nd (dl_lst da_nil) rfl (by simp [st0])) ?_
  let ρ0 : Pz.Env := [some (srcD p c), some (nat n), none, none, none]
  refine hs_seq (M := fun σ H' => ∃ l, Prs n (n * n) l ∧ AtM H 2 (l.map pairD) ρ0 σ H') ?_ (hss_ex fun l => hss_fact fun hl => hs_one (hs_retM (k := 2) fun v H' q => ⟨_, ⟨l, hl.mono (Nat.mul_le_mul hn hn), rfl⟩, q⟩))
  refine hs_forI (i := 3) (n := n) (ρ := [some (srcD p c), some (nat n), some (.list []), none, none]) (I := fun j σ H' => ∃ l, Prs n (n * j) l ∧ AtM H 2 (l.map pairD) ρ0 σ H') PassesOwn.never rfl (dr_1 B.range (dv 1) (by omega)) (pg_name (i := 3) scPairs.nd rfl (by first | exact .inl rfl | exact .inr rfl)) (fun σ H' q => q.sat)
    (fun σ H' H2 q e => ⟨[], ⟨fun z hz => by simp at hz, Nat.zero_le _⟩, (atm_stab _ _ _ q e).fgt (fgt_of (by simp [fgtB, ρ0, st0]))⟩) (fun j hj => ?_) (fun _ _ q => q)
  refine hss_pre (P := fun σ H' => ∃ l, Prs n (n * j) l ∧ AtM H 2 (l.map pairD) [some (srcD p c), some (nat n), none, some (nat j), none] σ H') (hss_ex fun l => hss_fact fun hl => ?_) fun σ H' ⟨σ0, e, l, hl, q⟩ => ⟨l, hl, by rw [e]; exact AtM.seti (i := 3) q (by decide)⟩
  refine hs_one (hs_forI (i := 4) (n := n) (ρ := [some (srcD p c), some (nat n), some (.list (l.map pairD)), some (nat j), none]) (I := fun i σ H' => ∃ l, Prs n (n * j + i) l ∧ AtM H 2 (l.map pairD) [some (srcD p c), some (nat n), none, some (nat j), none] σ H') PassesOwn.never rfl (dr_1 B.range (dv 1) (by omega)) (pg_name (i := 4) scPairs.nd rfl (by first | exact .inl rfl | exact .inr rfl)) (fun σ H' q => q.sat)
    (fun σ H' H2 q e => ⟨l, hl, atm_stab _ _ _ q e⟩) (fun i hi => ?_) (fun σ H' ⟨l, hl, q⟩ => ⟨l, by rw [Nat.mul_succ]; exact hl, q.fgt (fgt_of (by simp [fgtB, ρ0]))⟩))
  refine hss_pre (P := fun σ H' => ∃ l, Prs n (n * j + i) l ∧ AtM H 2 (l.map pairD) [some (srcD p c), some (nat n), none, some (nat j), some (nat i)] σ H') (hss_ex fun l => hss_fact fun hl => ?_) fun σ H' ⟨σ0, e, l, hl, q⟩ => ⟨l, hl, by rw [e]; exact AtM.seti (i := 4) q (by decide)⟩
  have hlen := hl.len
  have hnj : n * j ≤ 6 * 6 := Nat.mul_le_mul hn (Nat.le_trans (Nat.le_of_lt hj) hn)
  let ρ1 : Pz.Env := [some (srcD p c), some (nat n), some (.list (l.map pairD)), some (nat j), some (nat i)]
  refine hs_one (hs_ifN (p := p) (c := c) (ρ := ρ1) (C := fun b => b = true → j ≠ i) (PT_imp (pw_and (dt_cmp (ρ := ρ1) op_ne (dv 3) (dv 4) r2_neN) (pw_and1 (pw_or (dt_cmp (ρ := ρ1) op_lt (dv 1) (de_k 5) r2_ltN) (pw_or1 (pt_cmpR op_eq (pe_draw (ρ := ρ1) (p := p) (c := c) (top := 3) C1 hr (by decide) (dv 0) (de_k 3) (by decide) (by decide)) (de_k (ρ := ρ1) 0) (nomark _)))).pt)).pt fun σ H' Q ⟨s0, SS, q⟩ => ?_)
    (fun σ H' q => ⟨q.sat, S.mono q.same⟩) atm_stab (fun hne => ?_) (fun σ H' q => ⟨l, hl.mono (by omega), q.fgt (fgt_of (by simp [fgtB]))⟩))
  · refine ⟨s0, fun H2 e2 => ?_⟩
    by_cases hji : j = i
    · subst hji
      have hb : (!(j == j)) = false := by simp
      rw [hb]
      exact iteF (q false H2 (fun h => by cases h) e2)
    · have hb : (!(j == i)) = true := by simp [hji]
      rw [hb]
      refine iteT ⟨s0.mono e2, fun H3 e3 => ?_⟩
      cases decide (n < 5) with
      | true => exact iteT (q true H3 (fun _ => hji) (e2.trans e3))
      | false => exact iteF ⟨s0.mono (e2.trans e3), SS.mono (e2.trans e3), fun r H4 _ e4 => ⟨s0.mono (e2.trans (e3.trans e4)), fun y H5 e5 ry => by
          rw [ry.isInt]
          exact ⟨rfl, _, rfl, q _ H5 (fun _ => hji) (e2.trans (e3.trans (e4.trans e5)))⟩⟩⟩
  · refine hs_one (hs_appZ (d := pairD (j, i)) (de_tup (da_cons (dv 3) (da_one (dv 4)))) (imm_pair _) (by rw [List.length_map]; omega) (fun σ H' q => ?_)
      (T := fun he => pe_bm PySem.F.plainAttrs_list PySem.F.slot_list_append PySem.F.type_list_append mt_append (pv 2) (pa_cons he pa_nil)))
    refine ⟨l ++ [(j, i)], hl.more hj hi (hne rfl), ?_⟩
    rw [List.map_append]
    exact q.fgt (fgt_of (by simp [fgtB]))
end
end Kp

set_option Elab.async false
set_option linter.all false
set_option maxRecDepth 100000
set_option maxHeartbeats 4000000
namespace Kp
open PySem PySem.Spec PyProof.Rows L2 Pz
/-- a promise kept wherever the stack's guards are told to be none -/
structure FnG (P : Program) (w : World) (K : PySem.W.Frag) (mg : Str → Option Value) (base : Heap) (k : Nat) (f : Addr) (fd : FuncData) (ps : List Str) (sp : Sp) : Prop where
  many : ∀ vs H Q E, sp vs H Q E → vs.length = ps.length
  go : ∀ (A : Around) (outer : List PySem.Env) (s : Shared) (H : Hp) (args : Args) (us : List Value) (vs : List L2.V) (Q : VK) (E : XK), A.guards = some [] → Room k A → Env0 P w K mg base A outer s H → BindsTo s fd args (ps.zip us) → Vals vs us → sp vs H Q E →
    codeAny (model P w) A (.call (.ref f) args) (CR CX0 outer P w H s Q E) s
structure CalG (P : Program) (w : World) (K : PySem.W.Frag) (mg : Str → Option Value) (base : Heap) (k : Nat) (x : Str) (ps : List Str) (sp : Sp) : Prop where
  ex : ∃ f fd, FnG P w K mg base k f fd ps sp ∧ mg x = some (.ref f) ∧ PySem.W.keepIn K (.ref f) = true ∧ Binds K fd ps []
section
variable {P : Program} {w : World} {K : PySem.W.Frag} {mg : Str → Option Value} {base : Heap}
theorem fnG_of {x qual : Str} {st : Stmt} {f : Addr} {fd : FuncData} {N ps : List Str} {k : Nat} {sp : Sp} (F : Fun K x qual st f fd) (S : FnScope N ps (defScope st)) (hlen : ∀ vs H Q E, sp vs H Q E → vs.length = ps.length)
    (body : ∀ (cdv : Value) (A : Around) (outer : List PySem.Env) (s : Shared) (H : Hp) (vs : List L2.V) (Q : VK) (E : XK), A.guards = some [] → Room k (A.deeper (envOfC qual (defScope st) s.heap.objs.size f cdv)) → sp vs H Q E →
      ∃ t, PSs (cxOf CX0 P w K mg base N qual (defScope st) f cdv A outer s H E).nox (defBody st) t ∧ t { nx := fun _ H' => Q .non H', rt := Q } (L2.start N vs) H) : FnG P w K mg base (k + 1) f fd ps sp := by
  obtain ⟨oc, od, kV, doc, pm, an, cdv, ct, osl, rfl, look, code⟩ := F.ex
  refine ⟨hlen, ?_⟩
  intro A outer s H args us vs Q E gd room e0 bd rel hsp
  have nvs := hlen _ _ _ _ hsp
  have old : ∀ b o, base.get? b = some o → s.heap.get? b = some o := fun b o z => (e0.bs b o z).1
  have inK : K.In s.heap := e0.mod.kin.keeps old
  have kinds : ∀ z ∈ ps.zip us, (defScope st).names.lookup z.1 = some .local ∨ ((defScope st).names.lookup z.1 = some .cell ∧ ((cellsFrom (s.heap.objs.size + 1) (defScope st).names []).lookup z.1).isSome = true) := by
    rintro ⟨n, v⟩ hz
    exact (S.par n (List.of_mem_zip hz).1).elim .inl fun q => .inr ⟨q, PySem.W.cellsFrom_some _ _ _ (.inl q)⟩
  refine codeAny_call_function room.depth (inK _ _ look) rfl S.co S.gen rfl (PySem.W.codeRec_of inK code) (bd _ _ _ _ ?_)
  refine wpAny_newFunctionEnv_cells S.kind kinds ?_
  intro env he s1 inC
  subst he
  refine ⟨(e0.mod.nolimit.keeps old).keeps inC.toInCall.keep, codeAny_func ?_⟩
  obtain ⟨t, ht, q⟩ := body cdv A outer s H vs Q E gd (room.deeper _) hsp
  refine wpAny_mono (ht.nox.run [] s1 (L2.start N vs) H _ (inv_start (CX := CX0) (E := E) S room.hd e0 nvs rel inC) q) ?_ fun _ _ z => z
  intro fl s' z
  cases fl with
  | ret u =>
    obtain ⟨v, _, H', J, r, q⟩ := z
    exact ⟨v, H', J.os, J.bare, J.base, J.hok, r, q⟩
  | next =>
    obtain ⟨_, H', J, q⟩ := z
    exact ⟨V.non, H', J.os, J.bare, J.base, J.hok, rfl, q⟩
  | brk =>
    obtain ⟨_, _, _, q⟩ := z
    exact False.elim q
  | cont =>
    obtain ⟨_, _, _, q⟩ := z
    exact False.elim q
theorem okG {x : String} {st : Stmt} {N ps : List Str} {k : Nat} {R : List PyData → PyData → Prop} (F : Has K mg x st ps) (S : FnScope N ps (defScope st)) (len : ∀ ds d, R ds d → ds.length = ps.length)
    (body : ∀ (f : Addr) (cdv : Value) (A : Around) (outer : List PySem.Env) (s : Shared) (H : Hp) (E : XK) (ds : List PyData) (d : PyData), A.guards = some [] → Room k (A.deeper (envOfC x (defScope st) s.heap.objs.size f cdv)) → R ds d →
      HSs (cxOf CX0 P w K mg base N x (defScope st) f cdv A outer s H E).nox (defBody st) (At H (st0 N ds)) { nx := fun _ _ => False, rt := RetD H d }) : CalG P w K mg base (k + 1) x ps (spD R) := by
  obtain ⟨f, fd, F, hm, hb⟩ := F.ex
  refine ⟨f, fd, fnG_of F S (fun vs H Q E ⟨ds, d, hR, r, _⟩ => by rw [r.length]; exact len ds d hR) (fun cdv A outer s H vs Q E hg hr ⟨ds, d, hR, r, q⟩ => ⟨_, body f cdv A outer s H E ds d hg hr hR, ⟨Same.refl H, sat_start r⟩, ?_⟩), hm, F.kp, hb⟩
  exact ⟨fun σ H' h => h.elim, fun v H' h => q _ _ h.1 h.2, fun _ _ h => h.elim, fun _ _ h => h.elim⟩
/-- .. that draws from the source -/
def spQ (P : Program) (w : World) (R : List PyData → PyData → Prop) : Sp := fun vs H Q _ => ∃ (p c : Addr) (ds : List PyData) (d : PyData), R ds d ∧ RpA H (srcD p c :: ds) vs ∧ SrcH P w p c H ∧ ∀ v H', Same H H' → Rp H' d v → Q v H'
theorem okQ {x : String} {st : Stmt} {N ps : List Str} {k : Nat} {R : List PyData → PyData → Prop} (F : Has K mg x st ps) (S : FnScope N ps (defScope st)) (len : ∀ ds d, R ds d → ds.length + 1 = ps.length)
    (body : ∀ (f : Addr) (cdv : Value) (A : Around) (outer : List PySem.Env) (s : Shared) (H : Hp) (E : XK) (p c : Addr) (ds : List PyData) (d : PyData), A.guards = some [] → Room k (A.deeper (envOfC x (defScope st) s.heap.objs.size f cdv)) → R ds d → SrcH P w p c H →
      HSs (cxOf CX0 P w K mg base N x (defScope st) f cdv A outer s H E).nox (defBody st) (At H (st0 N (srcD p c :: ds))) { nx := fun _ _ => False, rt := RetD H d }) : CalG P w K mg base (k + 1) x ps (spQ P w R) := by
  obtain ⟨f, fd, F, hm, hb⟩ := F.ex
  refine ⟨f, fd, fnG_of F S (fun vs H Q E ⟨p, c, ds, d, hR, r, _⟩ => by rw [r.length, ← len ds d hR]; rfl) (fun cdv A outer s H vs Q E hg hr ⟨p, c, ds, d, hR, r, SS, q⟩ => ⟨_, body f cdv A outer s H E p c ds d hg hr hR SS, ⟨Same.refl H, sat_start r⟩, ?_⟩), hm, F.kp, hb⟩
  exact ⟨fun σ H' h => h.elim, fun v H' h => q _ _ h.1 h.2, fun _ _ h => h.elim, fun _ _ h => h.elim⟩
end
section
variable {X : Cx} {ρ : Pz.Env} {e : Expr} {es : List Expr} {pos p : Pos} {x : Str} {d : PyData} {ds : List PyData} {k j : Nat} {ps : List Str} {sp : Sp}
theorem pe_callG {t : TA} (C : CalG X.prog X.w X.K X.mg X.base k x ps sp) (gd : X.A.guards = some []) (hr : Room j X.A) (hkj : k ≤ j) (ha : PA X (e :: es) t) (hg : Gl X x := by rfl) (hdb : (x == ("__debug__" : Str)) = false := by decide)
    (he : starEach (e :: es) X.env = (false, eval e X.env) :: starEach es X.env := by rfl) (hpl : (backTo pos (starEach es X.env)).any (·.1) = false := by rfl) : PE X (.Call (.Name x p) (e :: es) [] pos) (fun σ H Q => t σ H fun vs H1 => sp vs H1 Q E0) := by
  obtain ⟨f, fd, G, hm, hk, hb⟩ := C.ex
  constructor
  intro pins s σ H Q I h
  refine wpAny_Call_Name_kw (ld_glob I hg hm (PySem.W.callWith_K (h₀ := X.base) I.ok.mod.kin hk (thn (ha.run pos pins s σ H _ I h) ?_) he hpl) hdb)
  rintro us s1 ⟨vs, H1, I1, r, q⟩
  refine ⟨I1.kIn, ?_⟩
  have hl : (us ++ []).length = ps.length := by rw [List.append_nil, ← r.length]; exact G.many _ _ _ _ q
  have bd := hb s1 us I1.kIn hl
  rw [List.append_nil] at bd
  refine wpAny_call (codeAny_mono (G.go X.A X.stack s1 H1 ⟨us, []⟩ us vs Q E0 gd (hr.mono hkj) I1.env0 bd r q) ?_)
  rintro (er | fl) s' hq
  · exact hq.elim
  · cases fl with
    | ret u => exact I1.after hq
    | next => exact hq.elim
    | brk => exact hq.elim
    | cont => exact hq.elim
theorem de_callG {R : List PyData → PyData → Prop} (C : CalG X.prog X.w X.K X.mg X.base k x ps (spD R)) (gd : X.A.guards = some []) (hr : Room j X.A) (hkj : k ≤ j) (ha : DA X (e :: es) ρ ds) (hR : R ds d) (hg : Gl X x := by rfl) (hdb : (x == ("__debug__" : Str)) = false := by decide)
    (he : starEach (e :: es) X.env = (false, eval e X.env) :: starEach es X.env := by rfl) (hpl : (backTo pos (starEach es X.env)).any (·.1) = false := by rfl) : DE X (.Call (.Name x p) (e :: es) [] pos) ρ d :=
  PE_imp (pe_callG C gd hr hkj ha hg hdb he hpl) fun σ H Q ⟨s, q⟩ => ⟨s, fun vs H1 e1 r1 => ⟨ds, d, hR, r1, fun v H' e2 r2 => q v H' (e1.trans e2) r2⟩⟩
/-- f(fears = e, many = e'), nothing by place -/
theorem de_kw {C : Addr} {st : Stmt} {R : List PyData → PyData ⊕ Str → Prop} {ef em : Expr} {kp1 kp2 : Pos} {df dm : PyData} {y : String} (G : CalK X.prog X.w X.K X.mg X.base (L2.CX X.prog X.w) k y st ["many", "fears"] (spX C R)) (hr : Room j X.A) (hkj : k ≤ j)
    (bd : ∀ (kV doc pm : Value) (an : Option Addr) (cdv ct : Value) (s : Shared) (vf vm : Value), BindsTo s (PySem.W.fnOf y y (defArgs st) (defBody st) (defScope st) .none kV doc pm an cdv ct) ⟨[], (["fears", "many"] : List Str).zip [vf, vm]⟩ ((["many", "fears"] : List Str).zip [vm, vf]))
    (hf : DE X ef ρ df) (hm2 : DE X em ρ dm) (hR : R [dm, df] (.inl d)) (hg : Gl X y := by rfl) (hdb : ((y : Str) == ("__debug__" : Str)) = false := by decide)
    (hall : (backToKw pos (keywordEach [⟨some "fears", ef, kp1⟩, ⟨some "many", em, kp2⟩] X.env)).all (·.1.isSome) = true := by rfl) (hks : (backToKw pos (keywordEach [⟨some "fears", ef, kp1⟩, ⟨some "many", em, kp2⟩] X.env)).filterMap (·.1) = (["fears", "many"] : List Str) := by rfl)
    (hpl : ((backTo pos (starEach [] X.env)).any (·.1) || (backToKw pos (keywordEach [⟨some "fears", ef, kp1⟩, ⟨some "many", em, kp2⟩] X.env)).any (·.1.isNone)) = false := by rfl) : DE X (.Call (.Name y p) [] [⟨some "fears", ef, kp1⟩, ⟨some "many", em, kp2⟩] pos) ρ d := by
  obtain ⟨f, fd, F, hm, hk, hb, FF⟩ := G
  obtain ⟨oc, od, kV, doc, pm, an, cdv, ct, osl, rfl, look, code⟩ := FF.ex
  constructor
  rintro pins s σ H Q I ⟨sat, q⟩
  refine wpAny_Call_Name_kw (ld_glob I hg hm (PySem.W.callWith_KW0 (h₀ := X.base) I.ok.mod.kin hk hall (thn ((pk_cons (kpos := kp1) (nm := some "fears") hf (pk_cons (kpos := kp2) (nm := some "many") hm2 pk_nil)).run pos pins s σ H (fun zs H' => Same H H' ∧ RpA H' [df, dm] zs) I ⟨sat, fun v H1 e1 r1 => ⟨sat.mono e1, fun u H2 e2 r2 => ⟨e1.trans e2, rpa_cons (Rp.mono e2 _ _ r1) (rpa_cons r2 rpa_nil)⟩⟩⟩) ?_) hpl) hdb)
  rintro ws s2 ⟨zs, H2, I2, rz, e2, r2⟩
  refine ⟨I2.kIn, ?_⟩
  rw [hks]
  obtain ⟨vf, vm, rfl, r3, r4⟩ := r2.isTwo
  cases rz with
  | @cons _ uf _ _ rf rz =>
    cases rz with
    | @cons _ um _ _ rm rz =>
      cases rz
      refine wpAny_call (codeAny_mono (F.run X.A X.stack s2 H2 ⟨[], (["fears", "many"] : List Str).zip [uf, um]⟩ [um, uf] [vm, vf] Q E0 (hr.mono hkj) I2.env0 (bd kV doc pm an cdv ct s2 uf um) (.cons rm (.cons rf .nil)) ⟨[dm, df], .inl d, hR, rpa_cons r4 (rpa_cons r3 rpa_nil), fun d' h v H' e3 r5 => by cases h; exact q v H' (e2.trans e3) r5, fun wd h => by cases h⟩) ?_)
      rintro (er | fl) s' hq
      · exact passL (X := X) pins σ H2 s2 er s' I2 hq
      · cases fl with
        | ret u => exact I2.after hq
        | next => exact hq.elim
        | brk => exact hq.elim
        | cont => exact hq.elim
/-- a datum whose repr is told -/
structure Shw (d : PyData) : Prop where
  show_ : d.showable = true
  nodict : d.hasDict = false
  depth : d.depth ≤ 100
  size : d.shown.length ≤ sizeLine
theorem de_repr (B : Bi X.mg) (gd : X.A.guards = some []) (hr : Room j X.A) (he : DE X e ρ d) (s : Shw d) (hg : Gl X "repr" := by rfl) (se : starEach (e :: []) X.env = (false, eval e X.env) :: starEach [] X.env := by rfl)
    (hpl : (backTo pos (starEach [] X.env)).any (·.1) = false := by rfl) : DE X (.Call (.Name "repr" p) [e] [] pos) ρ (.str d.shown) :=
  de_callB (r := rRepr X.A) cr_repr B.repr (by decide +kernel) (da_one he se) (fun H vs Q r q => ⟨d, r, gd, by have := hr.un; omega, s.show_, s.nodict, s.depth, s.size, q _ H (Same.refl H) (rp_str _)⟩) hg (by decide) (by decide) se hpl
end
end Kp

set_option Elab.async false
set_option linter.all false
set_option maxRecDepth 100000
set_option maxHeartbeats 4000000
namespace Kp
open PySem PySem.Spec PyProof.Rows L2 Pz
/-- a lot of few small houses -/
structure Sml (l : List Nat) : Prop where
  len : l.length ≤ 10
  low : ∀ h ∈ l, h < 10
theorem nat_facts : ∀ h < 10, (nat h).intsShort 13 = true ∧ (nat h).weight ≤ 4 ∧ (nat h).showable = true := by decide +kernel
theorem nats_facts : ∀ l : List Nat, (∀ h ∈ l, h < 10) → PyData.intsShortAll 13 (l.map nat) = true ∧ PyData.weightAll (l.map nat) ≤ 5 * l.length ∧ PyData.showableAll (l.map nat) = true ∧ PyData.hasDictAll (l.map nat) = false
  | [], _ => by simp [PyData.intsShortAll, PyData.weightAll, PyData.showableAll, PyData.hasDictAll]
  | h :: l, hb => by
    obtain ⟨a, b, c⟩ := nat_facts h (hb h List.mem_cons_self)
    obtain ⟨a2, b2, c2, d2⟩ := nats_facts l fun x hx => hb x (List.mem_cons_of_mem _ hx)
    rw [List.map_cons]
    refine ⟨?_, ?_, ?_, ?_⟩
    · rw [PyData.intsShortAll, a, a2]; rfl
    · rw [PyData.weightAll, List.length_cons]; omega
    · rw [PyData.showableAll, c, c2]; rfl
    · rw [PyData.hasDictAll, d2]; rfl
theorem lots_facts : ∀ ls : List (List Nat), (∀ l ∈ ls, Sml l) → PyData.intsShortAll 13 (ls.map lotD) = true ∧ PyData.weightAll (ls.map lotD) ≤ 51 * ls.length ∧ PyData.showableAll (ls.map lotD) = true ∧ PyData.hasDictAll (ls.map lotD) = false
  | [], _ => by simp [PyData.intsShortAll, PyData.weightAll, PyData.showableAll, PyData.hasDictAll]
  | l :: ls, hb => by
    have s := hb l List.mem_cons_self
    have sl := s.len
    obtain ⟨a, b, c, d⟩ := nats_facts l s.low
    obtain ⟨a2, b2, c2, d2⟩ := lots_facts ls fun x hx => hb x (List.mem_cons_of_mem _ hx)
    have e1 : (lotD l).intsShort 13 = true := by simp only [lotD, PyData.intsShort]; exact a
    have e2 : (lotD l).weight ≤ 50 := by simp only [lotD, PyData.weight]; omega
    have e3 : (lotD l).showable = true := by simp only [lotD, PyData.showable]; exact c
    have e4 : (lotD l).hasDict = false := by simp only [lotD, PyData.hasDict]; exact d
    rw [List.map_cons]
    refine ⟨?_, ?_, ?_, ?_⟩
    · rw [PyData.intsShortAll, e1, a2]; rfl
    · rw [PyData.weightAll, List.length_cons]; omega
    · rw [PyData.showableAll, e3, c2]; rfl
    · rw [PyData.hasDictAll, e4, d2]; rfl
theorem shw_of {d : PyData} (h1 : d.showable = true) (h2 : d.hasDict = false) (h3 : d.depth ≤ 64) (h4 : d.canLay0 = true) (h5 : d.weight ≤ 2 ^ 20) (h6 : d.intsShort 13 = true) : Shw d := ⟨h1, h2, by omega, by
  have h : PyData.layable0 d = true := by
    unfold PyData.layable0
    rw [h4, decide_eq_true h3, decide_eq_true h5] <;> rfl
  have := shown_le13 h h6
  exact Nat.le_trans this (by decide)⟩
theorem shw_lot {l : List Nat} (s : Sml l) : Shw (lotD l) := by
  obtain ⟨a, b, c, d⟩ := nats_facts l s.low
  have := s.len
  have := depth_nats l
  exact shw_of (by simp only [lotD, PyData.showable]; exact c) (by simp only [lotD, PyData.hasDict]; exact d) (by simp only [lotD, PyData.depth]; omega) (by simp only [lotD, PyData.canLay0]; exact canLay_nats l) (by simp only [lotD, PyData.weight]; omega) (by simp only [lotD, PyData.intsShort]; exact a)
theorem shw_lots {ls : List (List Nat)} (s : ∀ l ∈ ls, Sml l) (hl : ls.length ≤ 100) : Shw (lotsD ls) := by
  obtain ⟨a, b, c, d⟩ := lots_facts ls s
  have := depth_lots ls
  exact shw_of (by simp only [lotsD, PyData.showable]; exact c) (by simp only [lotsD, PyData.hasDict]; exact d) (by simp only [lotsD, PyData.depth]; omega) (by simp only [lotsD, PyData.canLay0]; exact canLay_lots ls) (by simp only [lotsD, PyData.weight]; omega) (by simp only [lotsD, PyData.intsShort]; exact a)
theorem shw_bool (b : Bool) : Shw (.bool b) := by cases b <;> exact ⟨by decide +kernel, by decide +kernel, by decide +kernel, by decide +kernel⟩
theorem sml_lotOf {n m : Nat} (hn : n ≤ 6) : Sml (lotOf n m) := ⟨by
  have := List.length_filter_le (fun h => hasN m h == 1) (List.range n)
  rw [List.length_range] at this
  unfold lotOf
  omega, fun h hh => by have := List.mem_range.mp (List.mem_filter.mp hh).1; omega⟩
theorem sml_mate {n h : Nat} {parted : List Nat} (hn : n ≤ 6) : Sml (mateOf n parted h) := ⟨by
  have := List.length_filter_le (mateB parted h) (List.range n)
  rw [List.length_range] at this
  unfold mateOf
  omega, fun h hh => by have := List.mem_range.mp (List.mem_filter.mp hh).1; omega⟩
theorem setM_mem {n : Nat} {marks : List Nat} {l : List Nat} (h : l ∈ setM n marks) : ∃ m ∈ marks, l = lotOf n m := by
  obtain ⟨m, hm, e⟩ := List.mem_map.mp ((srtL_perm _).mem_iff.mp h)
  exact ⟨m, hm, e.symm⟩
theorem setM_len (n : Nat) (marks : List Nat) : (setM n marks).length = marks.length := by unfold setM; rw [(srtL_perm _).length_eq, List.length_map]
theorem sml_set {n : Nat} {marks : List Nat} (hn : n ≤ 6) : ∀ l ∈ setM n marks, Sml l := fun l h => by
  obtain ⟨m, _, rfl⟩ := setM_mem h
  exact sml_lotOf hn
abbrev sPH : Stmt := top 40
theorem scPH : FnScope ["_law_n", "_law_fears", "_law_tops", "_law_parted", "_law_mark", "_law_due"] ["_law_n", "_law_fears", "_law_tops", "_law_parted"] (defScope sPH) := ⟨rfl, rfl, rfl, by decide +kernel, rfl, by decide +kernel, by decide +kernel⟩
/-- all the law's own plain helpers -/
structure Aid (P : Program) (w : World) (K : PySem.W.Frag) (mg : Str → Option Value) (base : Heap) (C : Addr) : Prop where
  lib : Lib P w K mg base C
  isP : Cal P w K mg base (L2.CX P w) 7 "is_parting" ["many", "fears", "lot"] (spX C rIsP)
  partsOf : CalK P w K mg base (L2.CX P w) 7 "partings_of" sPartsOf ["many", "fears"] (spX C rPartsOf)
  atomsOf : CalK P w K mg base (L2.CX P w) 7 "atoms_of" sAtomsOf ["many", "fears"] (spX C rAtomsOf)
  atomAt : Cal P w K mg base (L2.CX P w) 7 "atom_at" ["many", "fears", "house"] (spX C rAtomAt)
  partOf : Cal P w K mg base (L2.CX P w) 7 "parting_of" ["many", "fears", "one", "other"] (spX C rPartOf)
  few : Cal P w K mg base CX0 4 "few_fears" ["many", "few"] (spD rFew)
  draw : Cal P w K mg base CX0 1 "_law_draw" ["_law_source", "_law_top"] (spDr P w)
  has : Cal P w K mg base CX0 1 "_law_has" ["_law_mark", "_law_house"] (spD rHas)
  lotOf : Cal P w K mg base CX0 2 "_law_lot_of" ["_law_n", "_law_mark"] (spD rLotOf)
  full : Cal P w K mg base CX0 1 "_law_full" ["_law_n"] (spD rFull)
  ones : Cal P w K mg base CX0 2 "_law_ones" ["_law_n", "_law_mark"] (spD rOnes)
  greatest : Cal P w K mg base CX0 1 "_law_greatest" ["_law_marks"] (spL rGreatest)
  partings : Cal P w K mg base CX0 2 "_law_partings" ["_law_n", "_law_tops"] (spL rPartings)
  setOf : Cal P w K mg base CX0 3 "_law_set_of" ["_law_n", "_law_marks"] (spD rSetOf)
  atomOf : Cal P w K mg base CX0 2 "_law_atom_of" ["_law_n", "_law_parted", "_law_house"] (spD rAtomOf)
  two : Cal P w K mg base CX0 2 "_law_two_are_all" ["_law_n", "_law_tops"] (spD rTwo)
  turned : Cal P w K mg base CX0 1 "_law_turned" ["_law_n", "_law_lot"] (spD rTurned)
/-- what must be so of partings -/
structure OkP (n : Nat) (fears : List (List Nat)) (tops parted : List Nat) : Prop where
  v : V n fears
  fit : fearsFit n fears = true
  tl : tops.length ≤ 100
  pl : parted.length ≤ 100
  lot : ∀ m < 2 ^ n, lotFits n (lotOf n m) = true
  is : ∀ m < 2 ^ n, partsB n fears (lotOf n m) = decide (m ∈ parted)
  two : decide (0 < parted.length) = twoB n tops
  all : partsL n fears = setM n parted
def rPH (ds : List PyData) (d : PyData) : Prop := ∃ n fears tops parted, OkP n fears tops parted ∧ ds = [nat n, lotsD fears, marksD tops, marksD parted] ∧ d = .bool true
section
variable {P : Program} {w : World} {K : PySem.W.Frag} {mg : Str → Option Value} {base : Heap} {C : Addr}
theorem ok_PH (T : Aid P w K mg base C) (F : Has K mg "_law_partings_hold" sPH ["_law_n", "_law_fears", "_law_tops", "_law_parted"]) : CalG P w K mg base 9 "_law_partings_hold" ["_law_n", "_law_fears", "_law_tops", "_law_parted"] (spD rPH) := by
  refine okG F scPH (fun ds d ⟨_, _, _, _, _, h, _⟩ => by rw [h]; rfl) fun f cdv A outer s H E ds d gd hr hR => ?_
  obtain ⟨n, fears, tops, parted, o, rfl, rfl⟩ := hR
  have B := T.lib.bi
  have hn := o.v.hi
  have h2n := p26 hn
  have hfs := full_succ n
  have pl := o.pl
  refine hs_seq (M := At H [some (nat n), some (lotsD fears), some (marksD tops), some (marksD parted), none, none]) ?_ ?_
  · refine hs_forT (k := 4) (J := fun _ => [some (nat n), some (lotsD fears), some (marksD tops), some (marksD parted), none, none]) (xs := List.range (2 ^ n)) (enc := nat) PassesOwn.never rfl (di_r1 B.range (de_of (de_op op_add (de_call T.full hr (by decide) (da_one (dv 0)) ⟨n, hn, rfl, rfl⟩) (de_k 1) r2_addN) (by rw [hfs])) (by omega)) (pg_name (i := 4) scPH.nd rfl (by first | exact .inl rfl | exact .inr rfl)) (fgt_of (by simp [fgtB, st0])) (fun H1 e1 i m hi => ?_) (fun _ _ q => q)
    have hm : m < 2 ^ n := List.mem_range.mp (List.mem_of_getElem? hi)
    refine hs_one (hs_w (hs_guard (b := false) (dt_of (dt_cmp op_ne (de_repr B gd hr (de_callX (d := .bool (decide (m ∈ parted))) T.isP hr (by decide) (da_cons (dv 0) (da_cons (dv 1) (da_one (de_call T.lotOf hr (by decide) (da_cons (dv 0) (da_one (dv 4))) ⟨n, m, hn, rfl, rfl⟩)))) ⟨n, fears, o.v, o.fit, .inl ⟨lotOf n m, ?_, rfl, ?_⟩⟩) (shw_bool _)) (de_repr B gd hr (de_cmp op_in_seq (dv 4) (dv 3) r2_inMarks) (shw_bool _)) r2_neS) ?_) (fun h => by cases h)) ⟨fun σ H' q => q.2.fgt (fgt_of (by simp [fgtB])), fun _ _ q => q, fun _ _ q => q.elim, fun _ _ q => q.elim⟩)
    · have := (sml_lotOf (m := m) hn).len; omega
    · rw [if_pos (o.lot m hm), o.is m hm]
    · simp
  · refine hs_seq (hs_guard (b := false) (dt_of (dt_cmp op_ne (de_cmp op_gt (de_callB call_len_seq B.len (by decide +kernel) (da_one (dv 3)) rc_lenM) (de_k 0) r2_gtN) (de_call T.two hr (by decide) (da_cons (dv 0) (da_one (dv 2))) ⟨n, tops, hn, o.tl, rfl, rfl⟩) r2_neB) ?_) (fun h => by cases h)) (hss_fact fun _ => ?_)
    · rw [o.two]; simp
    have sh : Shw (lotsD (setM n parted)) := shw_lots (sml_set hn) (by rw [setM_len]; exact pl)
    refine hs_seq (hs_set (i := 5) scPH.nd (de_repr B gd hr (de_call T.setOf hr (by decide) (da_cons (dv 0) (da_one (dv 3))) ⟨n, parted, hn, pl, rfl, rfl⟩) sh)) ?_
    have hv : rPartsOf [nat n, lotsD fears] (.inl (lotsD (setM n parted))) := ⟨n, fears, o.v, rfl, by rw [if_pos o.fit, o.all]⟩
    refine hs_one (hs_ret (de_of (de_and (k := true) (m := true) (de_of (de_cmp op_eq (de_repr B gd hr (de_callX T.partsOf.cal hr (by decide) (da_cons (dv 0) (da_one (dv 1))) hv) sh) (dv 5) r2_eqS) ?_) fun _ => de_one (de_of (de_cmp op_eq (de_repr B gd hr (de_kw T.partsOf hr (by decide) (fun _ _ _ _ _ _ _ _ _ => BindsTo.of_eq rfl) (dv 1) (dv 0) hv) sh) (dv 5) r2_eqS) ?_)) rfl))
    · simp
    · simp
end
end Kp

set_option Elab.async false
set_option linter.all false
set_option maxRecDepth 100000
set_option maxHeartbeats 4000000
namespace Kp
open PySem PySem.Spec PyProof.Rows L2 Pz
theorem hs_guardZ {X : Cx} {Z : Ends} {H0 : Hp} {ρ : Pz.Env} {c0 : Expr} {pos : Pos} {A : List Stmt} {b : Bool} (hc : DT X c0 ρ b) (h1 : b = true → HSs X A (At H0 ρ) Z) (q : b = false → ∀ σ H, At H0 ρ σ H → Z.nx σ H) : HS X (.If c0 A [] pos) (At H0 ρ) Z :=
  hs_ifG hc (fun _ _ q => q.2) at_stab h1 fun e => hs_nil (q e)
abbrev sAH : Stmt := top 41
abbrev sTH : Stmt := top 45
theorem scAH : FnScope ["_law_n", "_law_fears", "_law_parted", "_law_mates", "_law_atoms", "_law_house", "_law_due", "_law_mark", "_law_atom"] ["_law_n", "_law_fears", "_law_parted", "_law_mates"] (defScope sAH) := ⟨rfl, rfl, rfl, by decide +kernel, rfl, by decide +kernel, by decide +kernel⟩
theorem scTH : FnScope ["_law_n", "_law_fears", "_law_parted", "_law_mates", "_law_turned_here", "_law_due", "_law_house", "_law_there", "_law_lot", "_law_mark"] ["_law_n", "_law_fears", "_law_parted", "_law_mates"] (defScope sTH) := ⟨rfl, rfl, rfl, by decide +kernel, rfl, by decide +kernel, by decide +kernel⟩
def matesD (n : Nat) (parted : List Nat) : Nat → List (List Nat)
  | 0 => []
  | i + 1 => if mateOf n parted i ∈ matesD n parted i then matesD n parted i else matesD n parted i ++ [mateOf n parted i]
def matesP (n : Nat) (parted : List Nat) : PyData := .list ((List.range n).map fun h => lotD (mateOf n parted h))
theorem matesD_len (n : Nat) (parted : List Nat) : ∀ i, (matesD n parted i).length ≤ i
  | 0 => Nat.le_refl _
  | i + 1 => by
    have := matesD_len n parted i
    unfold matesD
    split
    · omega
    · rw [List.length_append]; simp; exact this
theorem matesD_mem {n : Nat} {parted : List Nat} {l : List Nat} : ∀ {i}, l ∈ matesD n parted i → ∃ h < i, l = mateOf n parted h
  | 0, h => by simp [matesD] at h
  | i + 1, h => by
    unfold matesD at h
    split at h
    · obtain ⟨x, hx, e⟩ := matesD_mem h
      exact ⟨x, by omega, e⟩
    · rcases List.mem_append.mp h with h | h
      · obtain ⟨x, hx, e⟩ := matesD_mem h
        exact ⟨x, by omega, e⟩
      · exact ⟨i, by omega, List.mem_singleton.mp h⟩
/-- what must be so of atoms -/
structure OkA (n : Nat) (fears : List (List Nat)) (parted : List Nat) : Prop where
  v : V n fears
  fit : fearsFit n fears = true
  pl : parted.length ≤ 100
  at_ : ∀ h < n, ((atomsL n fears).filter fun a => decide (h ∈ a))[0]? = some (mateOf n parted h)
  srt : srtL (matesD n parted n) = atomsL n fears
  whole : ∀ m ∈ parted, ∀ a ∈ matesD n parted n, (a.filter fun h => hasN m h == 1).length = 0 ∨ (a.filter fun h => hasN m h == 1).length = a.length
def rAH (ds : List PyData) (d : PyData) : Prop := ∃ n fears parted, OkA n fears parted ∧ ds = [nat n, lotsD fears, marksD parted, matesP n parted] ∧ d = .bool true
theorem mates_at {n h : Nat} {parted : List Nat} (hh : h < n) : ((List.range n).map fun h => lotD (mateOf n parted h))[h]? = some (lotD (mateOf n parted h)) := by
  rw [List.getElem?_map, List.getElem?_range hh] <;> rfl
theorem sml_ats {n i : Nat} {parted : List Nat} (hn : n ≤ 6) : ∀ l ∈ matesD n parted i, Sml l := fun l h => by
  obtain ⟨x, _, rfl⟩ := matesD_mem h
  exact sml_mate hn
section
variable {P : Program} {w : World} {K : PySem.W.Frag} {mg : Str → Option Value} {base : Heap} {C : Addr}
theorem ok_AH (T : Aid P w K mg base C) (F : Has K mg "_law_atoms_hold" sAH ["_law_n", "_law_fears", "_law_parted", "_law_mates"]) : CalG P w K mg base 9 "_law_atoms_hold" ["_law_n", "_law_fears", "_law_parted", "_law_mates"] (spD rAH) := by
  refine okG F scAH (fun ds d ⟨_, _, _, _, h, _⟩ => by rw [h]; rfl) fun f cdv A outer s H E ds d gd hr hR => ?_
  obtain ⟨n, fears, parted, o, rfl, rfl⟩ := hR
  have B := T.lib.bi
  have hn := o.v.hi
  have pl := o.pl
  have al := matesD_len n parted n
  have hu65 : (A.deeper (envOfC "_law_atoms_hold" (defScope sAH) s.heap.objs.size f cdv)).units + 65 < cLine := by have := hr.un; omega
  refine hs_seq (hs_newM (i := 4) scAH.nd (dl_lst da_nil) rfl (by simp [st0])) ?_
  let ρ : Pz.Env := [some (nat n), some (lotsD fears), some (marksD parted), some (matesP n parted), none, none, none, none, none]
  let ρ1 : Pz.Env := [some (nat n), some (lotsD fears), some (marksD parted), some (matesP n parted), some (.list ((matesD n parted n).map lotD)), none, none, none, none]
  refine hs_seq (M := At H ρ1) ?_ ?_
  · refine hs_forMN (i := 5) (k := 4) (n := n) (E := fun i => (matesD n parted i).map lotD) (J := fun _ => ρ) (F := fun _ => True) PassesOwn.never rfl (dr_1 B.range (dv 0) (by omega)) (pg_name (i := 5) scAH.nd rfl (by first | exact .inl rfl | exact .inr rfl)) (fgt_of (by simp [fgtB, st0, ρ])) trivial (by decide)
      (fun j hj _ => ?_) (fun _ σ H' q => q.at_)
    refine hs_seq (hs_setM (i := 6) (d := lotD (mateOf n parted j)) scAH.nd (de_ix ix_list (dv 3) (dv 5) (r2_ixL (k := j) rfl (mates_at hj))) (imm_lot _)) ?_
    refine hs_seq (hs_guardM (b := false) (dt_of (dt_cmp op_ne (de_repr B gd hr (de_callX (d := lotD (mateOf n parted j)) T.atomAt hr (by decide) (da_cons (dv 0) (da_cons (dv 1) (da_one (dv 5)))) ⟨n, fears, o.v, o.fit, .inl ⟨j, _, hj, o.at_ j hj, rfl, rfl⟩⟩) (shw_lot (sml_mate hn))) (de_repr B gd hr (dv 6) (shw_lot (sml_mate hn))) r2_neS) (by simp)) (fun h => by cases h)) (hss_fact fun _ => ?_)
    have jl := matesD_len n parted j
    refine hs_one (hs_ifG (b := !decide (mateOf n parted j ∈ matesD n parted j)) (dt_cmp (op_notInD hu65) (dv 6) (dv 4) r2_niLots) (fun _ _ q => q.sat) atm_stab (fun h => ?_) (fun h => ?_))
    · have e : matesD n parted (j + 1) = matesD n parted j ++ [mateOf n parted j] := by
        rw [matesD, if_neg (by simpa using h)]
      refine hs_one (hs_appZ (d := lotD (mateOf n parted j)) (dv 6) (imm_lot _) (by rw [List.length_map]; omega) (fun σ H' q => ?_)
        (T := fun he => pe_bm PySem.F.plainAttrs_list PySem.F.slot_list_append PySem.F.type_list_append mt_append (pv 4) (pa_cons he pa_nil)))
      refine ⟨trivial, ?_⟩
      rw [e, List.map_append]
      exact q.fgt (fgt_of (by simp [fgtB, ρ]))
    · have e : matesD n parted (j + 1) = matesD n parted j := by
        rw [matesD, if_pos (by simpa using h)]
      refine hs_nil fun σ H' q => ⟨trivial, ?_⟩
      rw [e]
      exact q.fgt (fgt_of (by simp [fgtB, ρ]))
  · have sh : Shw (lotsD (atomsL n fears)) := by
      rw [← o.srt]
      exact shw_lots (fun l h => sml_ats hn l ((srtL_perm _).mem_iff.mp h)) (by rw [(srtL_perm _).length_eq]; omega)
    have hs : ∀ {pos p1 p2 p3 p4 p5 : Pos}, True := trivial
    refine hs_seq (hs_guard (b := false) (dt_of (dt_cmp op_ne (de_repr B gd hr (de_callX (d := lotsD (atomsL n fears)) T.atomsOf.cal hr (by decide) (da_cons (dv 0) (da_one (dv 1))) ⟨n, fears, o.v, rfl, by rw [if_pos o.fit]⟩) sh) (de_repr B gd hr (de_of (d := lotsD (atomsL n fears)) (de_callTy call_tuple_of B.tuple (by decide +kernel) (da_one (de_dl (dl_callB (cr_sortedT hr.units) B.sorted (by decide +kernel) (da_one (dv 4)) rl_sorted))) rc_tup) (by rw [← o.srt]; rfl)) sh) r2_neS) (by simp)) (fun h => by cases h)) (hss_fact fun _ => ?_)
    refine hs_seq (hs_guard (b := false) (dt_of (dt_cmp op_ne (de_repr B gd hr (de_kw (d := lotsD (atomsL n fears)) T.atomsOf hr (by decide) (fun _ _ _ _ _ _ _ _ _ => BindsTo.of_eq rfl) (dv 1) (dv 0) ⟨n, fears, o.v, rfl, by rw [if_pos o.fit]⟩) sh) (de_repr B gd hr (de_of (d := lotsD (atomsL n fears)) (de_callTy call_tuple_of B.tuple (by decide +kernel) (da_one (de_dl (dl_callB (cr_sortedT hr.units) B.sorted (by decide +kernel) (da_one (dv 4)) rl_sorted))) rc_tup) (by rw [← o.srt]; rfl)) sh) r2_neS) (by simp)) (fun h => by cases h)) (hss_fact fun _ => ?_)
    refine hs_seq (M := At H ρ1) ?_ (hs_one (hs_ret de_bl))
    refine hs_forT (k := 7) (J := fun _ => ρ1) (xs := parted) (enc := nat) PassesOwn.never rfl (di_list (dv 2)) (pg_name (i := 7) scAH.nd rfl (by first | exact .inl rfl | exact .inr rfl)) (Fgt.refl _) (fun H1 e1 i m hi => ?_) (fun _ _ q => q)
    refine hs_one (hs_forT (k := 8) (J := fun _ => ρ1.set 7 (some (nat m))) (xs := matesD n parted n) (enc := lotD) PassesOwn.never rfl (di_list (dv 4)) (pg_name (i := 8) scAH.nd rfl (by first | exact .inl rfl | exact .inr rfl)) (Fgt.refl _) (fun H2 e2 i2 a hi2 => ?_) (fun _ _ q => q.fgt (fgt_of (by simp [fgtB, ρ1]))))
    have sa := sml_ats hn a (List.mem_of_getElem? hi2)
    have hw := o.whole m (List.mem_of_getElem? hi) a (List.mem_of_getElem? hi2)
    have sal := sa.len
    refine hs_one (hs_guardZ (b := false) (dt_of (dt_cmp op_notIn_seq (de_callB call_len_seq B.len (by decide +kernel) (da_one (de_dl (dl_lc (xs := a) (enc := nat) (i := 5) (fun h => hasN m h == 1) nat rfl scAH.nd (di_tup (dv 8))
      (fun _ _ _ _ _ h hh => dts_one (dt_cmp op_eq (de_call T.has hr (by decide) (da_cons (dv 7) (da_one (dv 5))) ⟨m, h, by have := sa.low h hh; omega, rfl, rfl⟩) (de_k 1) r2_eqN)) (fun _ _ _ _ _ h _ _ => dv 5) (fun _ _ _ => imm_nat _) (by omega)))) rc_lenM) (de_tup (da_cons (de_k 0) (da_one (de_callB call_len_seq B.len (by decide +kernel) (da_one (dv 8)) rc_lenLot)))) (r2_niLot (l := [0, a.length]))) ?_) (fun h => by cases h) fun _ σ H' q => q.fgt (fgt_of (by simp [fgtB, ρ1])))
    rcases hw with hw | hw <;> rw [hw] <;> simp
end
end Kp

set_option Elab.async false
set_option linter.all false
set_option maxRecDepth 100000
set_option maxHeartbeats 4000000
namespace Kp
open PySem PySem.Spec PyProof.Rows L2 Pz
def turnF (n : Nat) (ls : List (List Nat)) : List (List Nat) := srtL (ls.map (revL n))
structure OkT (n : Nat) (fears : List (List Nat)) (parted : List Nat) : Prop where
  v : V n (turnF n fears)
  fok : ∀ l ∈ fears, l.length ≤ 10 ∧ (∀ h ∈ l, h < n) ∧ l.Pairwise (· < ·)
  pl : parted.length ≤ 100
  fit : fearsFit n (turnF n fears) = true
  all : partsL n (turnF n fears) = srtL (parted.map fun m => revL n (lotOf n m))
  at_ : ∀ h < n, ((atomsL n (turnF n fears)).filter fun a => decide (h ∈ a))[0]? = some (revL n (mateOf n parted (n - 1 - h)))
def rTH (ds : List PyData) (d : PyData) : Prop := ∃ n fears parted, OkT n fears parted ∧ ds = [nat n, lotsD fears, marksD parted, matesP n parted] ∧ d = .bool true
theorem asc_range {n : Nat} {p : Nat → Bool} : ((List.range n).filter p).Pairwise (· < ·) := List.pairwise_lt_range.filter p
theorem lotOf_low {n m : Nat} : ∀ h ∈ lotOf n m, h < n := fun h hh => List.mem_range.mp (List.mem_filter.mp hh).1
theorem mate_low {n h : Nat} {parted : List Nat} : ∀ x ∈ mateOf n parted h, x < n := fun h hh => List.mem_range.mp (List.mem_filter.mp hh).1
theorem sml_rev {n : Nat} {l : List Nat} (hn : n ≤ 6) (hl : l.length ≤ 10) : Sml (revL n l) := ⟨by unfold revL; rw [List.length_reverse, List.length_map]; exact hl, fun h hh => by
  obtain ⟨x, _, e⟩ := List.mem_map.mp (List.mem_reverse.mp hh)
  omega⟩
theorem turnF_len (n : Nat) (ls : List (List Nat)) : (turnF n ls).length = ls.length := by unfold turnF; rw [(srtL_perm _).length_eq, List.length_map]
section
variable {P : Program} {w : World} {K : PySem.W.Frag} {mg : Str → Option Value} {base : Heap} {C : Addr}
theorem ok_TH (T : Aid P w K mg base C) (F : Has K mg "_law_turned_hold" sTH ["_law_n", "_law_fears", "_law_parted", "_law_mates"]) : CalG P w K mg base 9 "_law_turned_hold" ["_law_n", "_law_fears", "_law_parted", "_law_mates"] (spD rTH) := by
  refine okG F scTH (fun ds d ⟨_, _, _, _, h, _⟩ => by rw [h]; rfl) fun f cdv A outer s H E ds d gd hr hR => ?_
  obtain ⟨n, fears, parted, o, rfl, rfl⟩ := hR
  have B := T.lib.bi
  have hn := o.v.hi
  have hn1 := o.v.lo
  have pl := o.pl
  have fl := o.v.len
  rw [turnF_len] at fl
  refine hs_seq (hs_set (i := 4) (d := lotsD (turnF n fears)) scTH.nd (de_callTy call_tuple_of B.tuple (by decide +kernel) (da_one (de_dl (dl_callB (cr_sortedT hr.units) B.sorted (by decide +kernel) (da_one (de_of (d := .list ((fears.map (revL n)).map lotD)) (de_dl (dl_map (xs := fears) (enc := lotD) (i := 8) (fun l => lotD (revL n l)) rfl scTH.nd (di_tup (dv 1))
    (fun _ _ _ _ _ l hl => de_call T.turned hr (by decide) (da_cons (dv 0) (da_one (dv 8))) ⟨n, l, by have := (o.fok l hl).1; omega, (o.fok l hl).2.1, (o.fok l hl).2.2, rfl, rfl⟩) (fun _ _ => imm_lot _) (by omega))) (by rw [List.map_map]; rfl))) rl_sorted))) rc_tup)) ?_
  refine hs_seq (hs_set (i := 5) (d := lotsD (srtL (parted.map fun m => revL n (lotOf n m)))) scTH.nd (de_callTy call_tuple_of B.tuple (by decide +kernel) (da_one (de_dl (dl_callB (cr_sortedT hr.units) B.sorted (by decide +kernel) (da_one (de_of (d := .list ((parted.map fun m => revL n (lotOf n m)).map lotD)) (de_dl (dl_map (xs := parted) (enc := nat) (i := 9) (fun m => lotD (revL n (lotOf n m))) rfl scTH.nd (di_list (dv 2))
    (fun _ _ _ _ _ m hm => de_call T.turned hr (by decide) (da_cons (dv 0) (da_one (de_call T.lotOf hr (by decide) (da_cons (dv 0) (da_one (dv 9))) ⟨n, m, hn, rfl, rfl⟩))) ⟨n, lotOf n m, by have := (sml_lotOf (m := m) hn).len; omega, lotOf_low, asc_range, rfl, rfl⟩) (fun _ _ => imm_lot _) (by omega))) (by rw [List.map_map]; rfl))) rl_sorted))) rc_tup)) ?_
  let ρ : Pz.Env := [some (nat n), some (lotsD fears), some (marksD parted), some (matesP n parted), some (lotsD (turnF n fears)), some (lotsD (srtL (parted.map fun m => revL n (lotOf n m)))), none, none, none, none]
  have sh : Shw (lotsD (srtL (parted.map fun m => revL n (lotOf n m)))) := shw_lots (fun l h => by
    obtain ⟨m, _, rfl⟩ := List.mem_map.mp ((srtL_perm _).mem_iff.mp h)
    exact sml_rev hn (sml_lotOf hn).len) (by rw [(srtL_perm _).length_eq, List.length_map]; exact pl)
  show HSs _ _ (At H ρ) _
  refine hs_seq (hs_guard (b := false) (dt_of (dt_cmp op_ne (de_repr B gd hr (de_callX (d := lotsD (srtL (parted.map fun m => revL n (lotOf n m)))) T.partsOf.cal hr (by decide) (da_cons (dv 0) (da_one (dv 4))) ⟨n, turnF n fears, o.v, rfl, by rw [if_pos o.fit, o.all]⟩) sh) (de_repr B gd hr (dv 5) sh) r2_neS) (by simp)) (fun h => by cases h)) (hss_fact fun _ => ?_)
  refine hs_seq (M := At H ρ) ?_ (hs_one (hs_ret de_bl))
  refine hs_forT (k := 6) (J := fun _ => ρ) (xs := List.range n) (enc := nat) PassesOwn.never rfl (di_r1 B.range (dv 0) (by omega)) (pg_name (i := 6) scTH.nd rfl (by first | exact .inl rfl | exact .inr rfl)) (Fgt.refl _) (fun H1 e1 i h hi => ?_) (fun _ _ q => q)
  have hh : h < n := List.mem_range.mp (List.mem_of_getElem? hi)
  have sm : Sml (mateOf n parted (n - 1 - h)) := sml_mate hn
  have sml := sm.len
  have sr : Shw (lotD (revL n (mateOf n parted (n - 1 - h)))) := shw_lot (sml_rev hn sm.len)
  refine hs_seq (hs_set (i := 7) scTH.nd (de_call T.turned hr (by decide) (da_cons (dv 0) (da_one (de_ix ix_list (dv 3) (de_op op_sub (de_op op_sub (dv 0) (de_k 1) (r2_subN (by omega))) (dv 6) (r2_subN (by omega))) (r2_ixL (k := n - 1 - h) rfl (mates_at (by omega)))))) ⟨n, mateOf n parted (n - 1 - h), by omega, mate_low, asc_range, rfl, rfl⟩)) ?_
  refine hs_one (hs_guardZ (b := false) (dt_of (dt_cmp op_ne (de_repr B gd hr (de_callX (d := lotD (revL n (mateOf n parted (n - 1 - h)))) T.atomAt hr (by decide) (da_cons (dv 0) (da_cons (dv 4) (da_one (dv 6)))) ⟨n, turnF n fears, o.v, o.fit, .inl ⟨h, _, hh, o.at_ h hh, rfl, rfl⟩⟩) sr) (de_repr B gd hr (dv 7) sr) r2_neS) (by simp)) (fun h => by cases h) fun _ σ H' q => q.fgt (fgt_of (by simp [fgtB, ρ])))
abbrev sRH : Stmt := top 43
theorem scRH : FnScope ["_law_n", "_law_fears", "_law_parted", "_law_mates", "_law_pairs_here", "_law_due", "_law_pair", "_law_told", "_law_lot"] ["_law_n", "_law_fears", "_law_parted", "_law_mates", "_law_pairs_here"] (defScope sRH) := ⟨rfl, rfl, rfl, by decide +kernel, rfl, by decide +kernel, by decide +kernel⟩
structure OkR (n : Nat) (fears : List (List Nat)) (parted : List Nat) : Prop where
  v : V n fears
  fit : fearsFit n fears = true
  pl : parted.length ≤ 100
  same : ∀ a < n, ∀ b < n, a ≠ b → b ∈ mateOf n parted a → sideD n fears a b = .none
  apart : ∀ a < n, ∀ b < n, a ≠ b → b ∉ mateOf n parted a → ∃ l, sideD n fears a b = lotD l ∧ l ∈ setM n parted ∧ a ∈ l ∧ b ∉ l
def rRH (ds : List PyData) (d : PyData) : Prop := ∃ n fears parted prs, OkR n fears parted ∧ Prs n 36 prs ∧ ds = [nat n, lotsD fears, marksD parted, matesP n parted, .list (prs.map pairD)] ∧ d = .bool true
theorem de_notN {X : Cx} {ρ : Pz.Env} {e : Expr} {pos p : Pos} {j : Nat} {d : PyData} {b : Bool} (he : DE X e ρ d) (hb : ∀ H v, Rp H d v → (!decide (v = L2.V.non)) = b) : DT X (.Compare e [.IsNot] [.Constant .none j p] pos) ρ b :=
  PT_imp (pt_cmpR op_notN he (de_non (ρ := ρ)) (nomark _)) fun σ H Q ⟨s, q⟩ => ⟨s, fun v H1 e1 r1 => ⟨s.mono e1, fun u H2 e2 r2 => ⟨r2.isNon, b, by rw [hb H1 v r1], q H2 (e1.trans e2)⟩⟩⟩
theorem ok_RH (T : Aid P w K mg base C) (F : Has K mg "_law_parting_hold" sRH ["_law_n", "_law_fears", "_law_parted", "_law_mates", "_law_pairs_here"]) : CalG P w K mg base 9 "_law_parting_hold" ["_law_n", "_law_fears", "_law_parted", "_law_mates", "_law_pairs_here"] (spD rRH) := by
  refine okG F scRH (fun ds d ⟨_, _, _, _, _, _, h, _⟩ => by rw [h]; rfl) fun f cdv A outer s H E ds d gd hr hR => ?_
  obtain ⟨n, fears, parted, prs, o, hprs, rfl, rfl⟩ := hR
  have B := T.lib.bi
  have hn := o.v.hi
  have pl := o.pl
  refine hs_seq (hs_set (i := 5) scRH.nd (de_call T.setOf hr (by decide) (da_cons (dv 0) (da_one (dv 2))) ⟨n, parted, hn, pl, rfl, rfl⟩)) ?_
  let ρ : Pz.Env := [some (nat n), some (lotsD fears), some (marksD parted), some (matesP n parted), some (.list (prs.map pairD)), some (lotsD (setM n parted)), none, none, none]
  show HSs _ _ (At H ρ) _
  refine hs_seq (M := At H ρ) ?_ (hs_one (hs_ret de_bl))
  refine hs_forT (k := 6) (J := fun _ => ρ) (xs := prs) (enc := pairD) PassesOwn.never rfl (di_list (dv 4)) (pg_name (i := 6) scRH.nd rfl (by first | exact .inl rfl | exact .inr rfl)) (Fgt.refl _) (fun H1 e1 i z hi => ?_) (fun _ _ q => q)
  obtain ⟨a, b⟩ := z
  obtain ⟨ha, hb, hab⟩ := hprs.all (a, b) (List.mem_of_getElem? hi)
  have ha : a < n := ha
  have hb : b < n := hb
  have hab : a ≠ b := hab
  refine hs_seq (hs_set (i := 7) scRH.nd (de_callX (d := sideD n fears a b) T.partOf hr (by decide) (da_cons (dv 0) (da_cons (dv 1) (da_cons (de_ix ix_tup (dv (d := .tuple [nat a, nat b]) 6) (de_k 0) (r2_ixT (k := 0) (d := nat a) rfl rfl)) (da_one (de_ix ix_tup (dv (d := .tuple [nat a, nat b]) 6) (de_k 1) (r2_ixT (k := 1) (d := nat b) rfl rfl)))))) ⟨n, fears, o.v, o.fit, .inr (.inr ⟨a, b, ha, hb, rfl, by rw [if_neg hab]⟩)⟩)) ?_
  refine hs_one (hs_if (dt_cmp op_in_seq (de_ix ix_tup (dv (d := .tuple [nat a, nat b]) 6) (de_k 1) (r2_ixT (k := 1) (d := nat b) rfl rfl)) (de_ix ix_list (dv 3) (de_ix ix_tup (dv (d := .tuple [nat a, nat b]) 6) (de_k 0) (r2_ixT (k := 0) (d := nat a) rfl rfl)) (r2_ixL (k := a) rfl (mates_at ha))) r2_inLot) (fun h => ?_) (fun h => ?_))
  · have e := o.same a ha b hb hab (of_decide_eq_true h)
    rw [e]
    exact hs_one (hs_guardZ (b := false) (de_notN (dv 7) fun H v r => by rw [r.isNon]; simp) (fun h => by cases h) fun _ σ H' q => q.fgt (fgt_of (by simp [fgtB, ρ])))
  · obtain ⟨l, e, hl, hal, hbl⟩ := o.apart a ha b hb hab (of_decide_eq_false h)
    rw [e]
    have sl := sml_set hn l hl
    refine hs_seq (hs_guard (b := false) (dt_w (dw_or (k := false) (m := false) (dt_not (k := true) (dt_val (de_isi (T := "tuple") B.isi B.tuple (by decide +kernel) rfl (dv 7) (kitT _)))) fun _ => dw_or1 (dt_of (dt_cmp op_notIn_seq (de_repr B gd hr (dv 7) (shw_lot sl)) (de_of (d := .list (((setM n parted).map fun l => (lotD l).shown).map .str)) (de_dl (dl_map (xs := setM n parted) (enc := lotD) (i := 8) (fun l => .str (lotD l).shown) rfl scRH.nd (di_tup (dv 5))
      (fun _ _ _ _ _ l hl => de_repr B gd hr (dv 8) (shw_lot (sml_set hn l hl))) (fun _ _ => imm_str _) (by rw [setM_len]; omega))) (by rw [List.map_map]; rfl)) r2_niLS) ?_))) (fun h => by cases h)) (hss_fact fun _ => ?_)
    · have : ((setM n parted).map fun l => (lotD l).shown).contains (lotD l).shown = true := by
        rw [List.contains_iff_mem]
        exact List.mem_map.mpr ⟨l, hl, rfl⟩
      rw [this]; rfl
    · refine hs_one (hs_guardZ (b := false) (dt_w (dw_or (k := false) (m := false) (dt_of (dt_cmp op_notIn_seq (de_ix ix_tup (dv (d := .tuple [nat a, nat b]) 6) (de_k 0) (r2_ixT (k := 0) (d := nat a) rfl rfl)) (dv 7) r2_niLot) (by rw [decide_eq_true hal]; rfl)) fun _ => dw_or1 (dt_of (dt_cmp op_in_seq (de_ix ix_tup (dv (d := .tuple [nat a, nat b]) 6) (de_k 1) (r2_ixT (k := 1) (d := nat b) rfl rfl)) (dv 7) r2_inLot) (decide_eq_false hbl)))) (fun h => by cases h) fun _ σ H' q => q.fgt (fgt_of (by simp [fgtB, ρ])))
end
end Kp

set_option Elab.async false
set_option linter.all false
set_option maxRecDepth 100000
set_option maxHeartbeats 4000000
namespace Kp
open PySem PySem.Spec PyProof.Rows L2 Pz
abbrev sFH : Stmt := top 46
abbrev sRF : Stmt := top 47
theorem scFH : FnScope ["_law_source", "_law_n", "_law_few", "_law_fears", "_law_singles", "_law_marks", "_law_house", "_law_mark"] ["_law_source", "_law_n"] (defScope sFH) := ⟨rfl, rfl, rfl, by decide +kernel, rfl, by decide +kernel, by decide +kernel⟩
theorem scRF : FnScope ["_law_number", "_law_n", "_law_fears", "_law_worth", "bad"] ["_law_number", "_law_n", "_law_fears", "_law_worth"] (defScope sRF) := ⟨rfl, rfl, rfl, by decide +kernel, rfl, by decide +kernel, by decide +kernel⟩
def marksF (n few : Nat) : List Nat := (List.range (2 ^ n)).filter fun m => decide (n - few ≤ onesN n m) && decide (onesN n m ≤ few)
def fewB (n few : Nat) : Bool := decide ((fewL n few).length ≤ 30) && (fewL n few).all (fun l => decide (l.length ≤ 100)) && fearsFit n (fewL n few) && (if 2 * few < n ∨ n = 1 then decide (atomsL n (fewL n few) = [List.range n]) else decide (atomsL n (fewL n few) = (List.range n).map fun h => [h]) && decide (partsL n (fewL n few) = setM n (marksF n few)))
theorem few_all : ∀ n < 7, 1 ≤ n → ∀ few < n + 1, fewB n few = true := by decide +kernel
structure OkF (n few : Nat) : Prop where
  v : V n (fewL n few)
  fit : fearsFit n (fewL n few) = true
  one : 2 * few < n ∨ n = 1 → atomsL n (fewL n few) = [List.range n]
  ats : ¬ (2 * few < n ∨ n = 1) → atomsL n (fewL n few) = (List.range n).map fun h => [h]
  prt : ¬ (2 * few < n ∨ n = 1) → partsL n (fewL n few) = setM n (marksF n few)
theorem okF {n few : Nat} (h1 : 1 ≤ n) (h6 : n ≤ 6) (hf : few < n + 1) : OkF n few := by
  have h := few_all n (by omega) h1 few hf
  unfold fewB at h
  simp only [Bool.and_eq_true, List.all_eq_true, decide_eq_true_eq] at h
  obtain ⟨⟨⟨a, b⟩, c⟩, d⟩ := h
  refine ⟨⟨h1, h6, a, b⟩, c, fun q => ?_, fun q => ?_, fun q => ?_⟩
  · rw [if_pos q] at d; exact of_decide_eq_true d
  · rw [if_neg q] at d; exact of_decide_eq_true (Bool.and_eq_true_iff.mp d).1
  · rw [if_neg q] at d; exact of_decide_eq_true (Bool.and_eq_true_iff.mp d).2
def rFH (ds : List PyData) (d : PyData) : Prop := ∃ n : Nat, 1 ≤ n ∧ n ≤ 6 ∧ ds = [nat n] ∧ d = .bool true
section
variable {P : Program} {w : World} {K : PySem.W.Frag} {mg : Str → Option Value} {base : Heap} {C : Addr}
theorem ok_FH (T : Aid P w K mg base C) (F : Has K mg "_law_few_hold" sFH ["_law_source", "_law_n"]) : CalG P w K mg base 9 "_law_few_hold" ["_law_source", "_law_n"] (spQ P w rFH) := by
  refine okQ F scFH (fun ds d ⟨_, _, _, h, _⟩ => by rw [h]; rfl) fun f cdv A outer s H E p c ds d gd hr hR S => ?_
  obtain ⟨n, hn1, hn, rfl, rfl⟩ := hR
  have B := T.lib.bi
  have h2n := p26 hn
  have hfs := full_succ n
  refine hs_seq (M := fun σ H' => ∃ few : Nat, few < n + 1 ∧ At H [some (srcD p c), some (nat n), some (nat few), none, none, none, none, none] σ H')
    (hs_draw (i := 2) (p := p) (c := c) (top := n + 1) (ρ := [some (srcD p c), some (nat n), none, none, none, none, none, none]) scFH.nd (pe_draw T.draw hr (by decide) (dv 0) (de_op op_add (dv 1) (de_k 1) r2_addN) (by omega) (by omega)) (fun σ H' q => ⟨q.2, S.mono q.1⟩)
      fun σ H' r H2 q e hr' => ⟨r, hr', q.1.trans e, Sat.set (i := 2) (q.2.mono e) (rp_int _)⟩) (hss_ex fun few => hss_fact fun hfew => ?_)
  have o := okF hn1 hn hfew
  refine hs_seq (hs_set (i := 3) (d := lotsD (fewL n few)) scFH.nd (de_call T.few hr (by decide) (da_cons (dv 1) (da_one (dv 2))) ⟨n, few, hn1, hn, by omega, rfl, rfl⟩)) ?_
  refine hs_seq (hs_set (i := 4) (d := lotsD ((List.range n).map fun h => [h])) scFH.nd (de_callTy call_tuple_of B.tuple (by decide +kernel) (da_one (de_of (d := .list (((List.range n).map fun h => [h]).map lotD)) (de_dl (dl_map (xs := List.range n) (enc := nat) (i := 6) (fun h => lotD [h]) rfl scFH.nd (di_r1 B.range (dv 1) (by omega)) (fun _ _ _ _ _ h _ => de_tup (da_one (dv 6))) (fun _ _ => imm_lot _) (by simp; omega))) (by rw [List.map_map]; rfl))) rc_tup)) ?_
  have sOne : Shw (lotsD [List.range n]) := shw_lots (fun l hl => by
    rw [List.mem_singleton.mp hl]
    exact ⟨by rw [List.length_range]; omega, fun h hh => by have := List.mem_range.mp hh; omega⟩) (by simp)
  have sSing : Shw (lotsD ((List.range n).map fun h => [h])) := shw_lots (fun l hl => by
    obtain ⟨h, hh, rfl⟩ := List.mem_map.mp hl
    exact ⟨by simp, fun x hx => by rw [List.mem_singleton.mp hx]; have := List.mem_range.mp hh; omega⟩) (by rw [List.length_map, List.length_range]; omega)
  have hA : rAtomsOf [nat n, lotsD (fewL n few)] (.inl (lotsD (atomsL n (fewL n few)))) := ⟨n, _, o.v, rfl, by rw [if_pos o.fit]⟩
  refine hs_seq (hs_guard (b := decide (2 * few < n) || (n == 1)) (dt_w (dw_or (dt_cmp op_lt (de_op op_mul (de_k 2) (dv 2) (r2_mulN (by omega))) (dv 1) r2_ltN) fun _ => dw_or1 (dt_cmp op_eq (dv 1) (de_k 1) r2_eqN))) (fun h => ?_)) (hss_fact fun h => ?_)
  · have e := o.one (by simpa using h)
    exact hs_one (hs_ret (de_of (de_cmp op_eq (de_repr B gd hr (de_callX (d := lotsD [List.range n]) T.atomsOf.cal hr (by decide) (da_cons (dv 1) (da_one (dv 3))) (by rw [← e]; exact hA)) sOne) (de_repr B gd hr (de_tup (da_one (de_tupRange rfl B.tuple B.range (dv 1) (by omega)))) sOne) r2_eqS) (congrArg PyData.bool (beq_self_eq_true (lotsD [List.range n]).shown))))
  · have nh : ¬ (2 * few < n ∨ n = 1) := by
      intro z
      have z' : (decide (2 * few < n) || n == 1) = true := by simpa using z
      rw [z'] at h; cases h
    have ml : (marksF n few).length ≤ 64 := by
      have := List.length_filter_le (fun m => decide (n - few ≤ onesN n m) && decide (onesN n m ≤ few)) (List.range (2 ^ n))
      rw [List.length_range] at this
      unfold marksF
      omega
    refine hs_seq (hs_lc (i := 5) (pl_lc (xs := List.range (2 ^ n)) (enc := nat) (i := 7) (j := 5) (fun m => decide (n - few ≤ onesN n m) && decide (onesN n m ≤ few)) nat rfl scFH.nd (di_r1 B.range (de_of (de_op op_add (de_call T.full hr (by decide) (da_one (dv 1)) ⟨n, hn, rfl, rfl⟩) (de_k 1) r2_addN) (by rw [hfs])) (by omega))
      (fun _ _ _ _ _ m _ => dts_one (dt_w (dw_and (dt_cmp op_le (de_op op_sub (dv 1) (dv 2) (r2_subN (by omega))) (de_call T.ones hr (by decide) (da_cons (dv 1) (da_one (dv 7))) ⟨n, m, hn, rfl, rfl⟩) r2_leN) fun _ => dw_and1 (dt_cmp op_le (de_call T.ones hr (by decide) (da_cons (dv 1) (da_one (dv 7))) ⟨n, m, hn, rfl, rfl⟩) (dv 2) r2_leN))))
      (fun _ _ _ _ _ m _ _ => dv 7) (fun _ _ _ => imm_nat _) (by simp; omega))) ?_
    have sP : Shw (lotsD (setM n (marksF n few))) := shw_lots (sml_set hn) (by rw [setM_len]; omega)
    refine hs_one (hs_ret (de_of (de_and (k := true) (m := true) (de_of (de_cmp op_eq (de_repr B gd hr (de_callX (d := lotsD ((List.range n).map fun h => [h])) T.atomsOf.cal hr (by decide) (da_cons (dv 1) (da_one (dv 3))) (by rw [← o.ats nh]; exact hA)) sSing) (de_repr B gd hr (dv 4) sSing) r2_eqS) (by simp)) fun _ =>
      de_one (de_of (de_cmp op_eq (de_repr B gd hr (de_callX (d := lotsD (setM n (marksF n few))) T.partsOf.cal hr (by decide) (da_cons (dv 1) (da_one (dv 3))) ⟨n, _, o.v, rfl, by rw [if_pos o.fit, o.prt nh]⟩) sP) (de_repr B gd hr (de_call T.setOf hr (by decide) (da_cons (dv 1) (da_one (dv (d := marksD (marksF n few)) 5))) ⟨n, marksF n few, hn, by omega, rfl, rfl⟩) sP) r2_eqS) (by simp))) rfl))
end
end Kp

set_option Elab.async false
set_option linter.all false
set_option maxRecDepth 100000
set_option maxHeartbeats 4000000
namespace Kp
open PySem PySem.Spec PyProof.Rows L2 Pz
def tellD (wd : Str) : PyData := .tuple [.str wd, .int (-1)]
/-- which call is tried -/
def asks (n : Nat) (fears : List (List Nat)) (x : PyData) : Nat → PyData ⊕ Str → Prop
  | 0, o => rIsP [nat n, lotsD fears, x] o
  | 1, o => rPartOf [nat n, lotsD fears, x, nat 0] o
  | 2, o => rPartOf [nat n, lotsD fears, nat 0, x] o
  | 3, o => rAtomAt [nat n, lotsD fears, x] o
  | 4, o => rAtomsOf [nat n, x] o
  | _, o => rPartsOf [nat n, x] o
def toldD : PyData ⊕ Str → PyData
  | .inl _ => .str "let"
  | .inr wd => .str (tellD wd).shown
def rRF (ds : List PyData) (d : PyData) : Prop := ∃ (i n : Nat) (fears : List (List Nat)) (x : PyData) (o : PyData ⊕ Str), asks n fears x i o ∧ (∀ wd, o = .inr wd → Shw (tellD wd)) ∧ ds = [nat i, nat n, lotsD fears, x] ∧ d = toldD o
/-- .. and what the class of the error must be like for a clause to catch it and read its fields -/
structure NU2 (P : Program) (w : World) (K : PySem.W.Frag) (mg : Str → Option Value) (base : Heap) (C : Addr) : Prop extends NU P w K mg base C where
  xf : XfC K C
  te : PySem.W.exmOne K (.ref C) (.ref C) = some true
section
variable {X : Cx} {W : WX} {ρ : Pz.Env} {e : Expr} {H0 : Hp} {k : Nat} {C : Addr}
def PW0 (C : Addr) (W : WX) (o : PyData ⊕ Str) (H0 : Hp) (ρ : Pz.Env) : As := fun σ H => At H0 ρ σ H ∧ ∀ wd, o = .inr wd → ∀ cls d H', EOut C wd H0 cls d H' → W cls d σ H'
theorem pw0_stab {o : PyData ⊕ Str} : Stab (PW0 C W o H0 ρ) := fun σ H H' h e => ⟨at_stab σ H H' h.1 e, h.2⟩
/-- a call that may raise, alone, in a try's body -/
theorem hs_try1 {Z : Ends} {x : Str} {ps : List Str} {R : List PyData → PyData ⊕ Str → Prop} {j : Nat} {es : List Expr} {ds : List PyData} {o : PyData ⊕ Str} {pos p spos : Pos} (tk : Takes X W) (G : Cal X.prog X.w X.K X.mg X.base (L2.CX X.prog X.w) k x ps (spX C R)) (hr : Room j X.A) (hkj : k ≤ j) (ha : DA X (e :: es) ρ ds) (hR : R ds o)
    (q : ∀ σ H, (∃ d, o = .inl d) → At H0 ρ σ H → Z.nx σ H) (hg : Gl X x := by rfl) (hdb : (x == ("__debug__" : Str)) = false := by decide)
    (he : starEach (e :: es) X.env = (false, eval e X.env) :: starEach es X.env := by rfl) (hpl : (backTo pos (starEach es X.env)).any (·.1) = false := by rfl) (hs : swapsWith (.Call (.Name x p) (e :: es) [] pos) none spos.line X.env = pure false := by rfl) :
    HS X (.Expr (.Call (.Name x p) (e :: es) [] pos) spos) (PW0 C W o H0 ρ) Z := by
  obtain ⟨f, fd, G, hm, hk, hb⟩ := G.ex
  refine PS_imp (ps_expr (pe_callS (E := WE W) G (hr.mono hkj) hg hm hk hb (fun σ => passAt tk σ) ha hdb he hpl) hs) fun D σ H ⟨z, l⟩ => ⟨z.1.2, fun vs H1 e1 r1 => ?_⟩
  exact ⟨ds, o, hR, r1, fun d h v H' e2 r2 => l.1 _ _ (q σ H' ⟨d, h⟩ (at_stab σ H H' z.1 (e1.trans e2))), fun wd h cls d H' z2 => z.2 wd h cls d H' (z2.base (z.1.1.trans e1))⟩
end
section
variable {P : Program} {w : World} {K : PySem.W.Frag} {mg : Str → Option Value} {base : Heap} {C : Addr}
theorem look_word {x : L2.V} {wd : L2.V} : List.lookup ("word" : Str) [(("at" : Str), x), ("word", wd)] = some wd := by
  have e : (("word" : Str) == ("at" : Str)) = false := by decide
  rw [List.lookup_cons, e, List.lookup_cons, beq_self_eq_true]
theorem look_at {x : L2.V} {wd : L2.V} : List.lookup ("at" : Str) [(("at" : Str), x), ("word", wd)] = some x := by rw [List.lookup_cons, beq_self_eq_true]
/-- the clause: bad holds the error -/
def tBad (C : Addr) (o : PyData ⊕ Str) : Addr → Value → Option Addr → TS := fun a cls d D σ H => ∃ (wd : Str) (dd : Addr), σ[4]? = some (some (.ref a)) ∧ o = .inr wd ∧ cls = .ref C ∧ d = some dd ∧ H dd = some (.xd [("at", .int (-1)), ("word", .str wd)]) ∧ ∀ v H', Same H H' → v = L2.V.str (tellD wd).shown → D.rt v H'
theorem ok_RF (T : Aid P w K mg base C) (U : NU2 P w K mg base C) (F : Has K mg "_law_refused" sRF ["_law_number", "_law_n", "_law_fears", "_law_worth"]) : CalG P w K mg base 9 "_law_refused" ["_law_number", "_law_n", "_law_fears", "_law_worth"] (spD rRF) := by
  refine okG F scRF (fun ds d ⟨_, _, _, _, _, _, _, h, _⟩ => by rw [h]; rfl) fun f cdv A outer s H E ds d gd hr hR => ?_
  obtain ⟨i, n, fears, x, o, hask, hsh, rfl, rfl⟩ := hR
  have B := T.lib.bi
  let ρ : Pz.Env := [some (nat i), some (nat n), some (lotsD fears), some x, none]
  show HSs _ _ (At H ρ) _
  refine hs_seq (M := fun σ H' => (∃ d, o = .inl d) ∧ At H ρ σ H') ?_ (hss_fact fun ⟨d, hd⟩ => hs_one (hs_ret (de_of (d := toldD o) (d' := .str "let") de_str (by rw [hd]; rfl))))
  refine PS_imp (ps_try_as (i := 4) (tb := fun W => tS (PW0 C W o H ρ) { nx := fun σ H' => (∃ d, o = .inl d) ∧ At H ρ σ H', rt := RetD H (toldD o) }) (ts := tBad C o) (Wout := fun _ _ _ _ => False) rfl rfl scRF.nd rfl rfl ⟨rfl, by decide, .inl U.gm⟩ takes0 (fun W pn xe tk po => ?_) (fun a oe cls d pn hz hf => ?_)) fun D σ H' ⟨q, l⟩ => ?_
  · -- the body
    have fin : ∀ σ H', (∃ d, o = .inl d) → At H ρ σ H' → (∃ d, o = .inl d) ∧ At H ρ σ H' := fun _ _ h q => ⟨h, q⟩
    have sat : ∀ σ H', PW0 C W o H ρ σ H' → Sat ρ σ H' := fun _ _ q => q.1.2
    refine hs_one (hs_ifG (dt_cmp op_eq (dv (ρ := ρ) 0) (de_k 0) r2_eqN) sat pw0_stab (fun h => ?_) (fun h0 => ?_))
    · have e := eq_of_beq h
      subst e
      exact hs_one (hs_try1 tk T.isP hr (by decide) (da_cons (dv 1) (da_cons (dv 2) (da_one (dv 3)))) hask fin)
    refine hs_one (hs_ifG (dt_cmp op_eq (dv (ρ := ρ) 0) (de_k 1) r2_eqN) sat pw0_stab (fun h => ?_) (fun h1 => ?_))
    · have e := eq_of_beq h
      subst e
      exact hs_one (hs_try1 tk T.partOf hr (by decide) (da_cons (dv 1) (da_cons (dv 2) (da_cons (dv 3) (da_one (de_k 0))))) hask fin)
    refine hs_one (hs_ifG (dt_cmp op_eq (dv (ρ := ρ) 0) (de_k 2) r2_eqN) sat pw0_stab (fun h => ?_) (fun h2 => ?_))
    · have e := eq_of_beq h
      subst e
      exact hs_one (hs_try1 tk T.partOf hr (by decide) (da_cons (dv 1) (da_cons (dv 2) (da_cons (de_k 0) (da_one (dv 3))))) hask fin)
    refine hs_one (hs_ifG (dt_cmp op_eq (dv (ρ := ρ) 0) (de_k 3) r2_eqN) sat pw0_stab (fun h => ?_) (fun h3 => ?_))
    · have e := eq_of_beq h
      subst e
      exact hs_one (hs_try1 tk T.atomAt hr (by decide) (da_cons (dv 1) (da_cons (dv 2) (da_one (dv 3)))) hask fin)
    refine hs_one (hs_ifG (dt_cmp op_eq (dv (ρ := ρ) 0) (de_k 4) r2_eqN) sat pw0_stab (fun h => ?_) (fun h4 => ?_))
    · have e := eq_of_beq h
      subst e
      exact hs_one (hs_try1 tk T.atomsOf.cal hr (by decide) (da_cons (dv 1) (da_one (dv 3))) hask fin)
    have hask5 : rPartsOf [nat n, x] o := by
      match i, hask, h0, h1, h2, h3, h4 with
      | 0, _, h, _, _, _, _ => cases h
      | 1, _, _, h, _, _, _ => cases h
      | 2, _, _, _, h, _, _ => cases h
      | 3, _, _, _, _, h, _ => cases h
      | 4, _, _, _, _, _, h => cases h
      | i + 5, h, _, _, _, _, _ => exact h
    exact hs_one (hs_try1 tk T.partsOf.cal hr (by decide) (da_cons (dv 1) (da_one (dv 3))) hask5 fin)
  · -- the clause
    refine PSs_imp (pss_one (ps_ret (pe_callB (r := rRepr _) cr_repr rfl B.repr (by decide +kernel) (pa_cons (pe_tup (pa_cons (pe_xf U.xf U.nw hz hf (pv 4)) (pa_cons (pe_xf U.xf U.na hz hf (pv 4)) pa_nil))) pa_nil) (by decide) (by decide) rfl rfl))) fun D σ H' ⟨wd, dd, h4, ho, hcls, hd, hx, q⟩ => ?_
    have sh := hsh wd ho
    refine ⟨.ref a, h4, rfl, hcls, dd, _, .str wd, hd, hx, look_word, .ref a, h4, rfl, hcls, dd, _, .int (-1), hd, hx, look_at, small1000 (by simp), fun p hp => ?_⟩
    refine ⟨tellD wd, rpa_cons (rp_tup upd_same (rpa_cons (rp_str wd) (rpa_cons (rp_int _) rpa_nil))) rpa_nil, gd, ?_, sh.show_, sh.nodict, sh.depth, sh.size, q _ _ (same_new hp) rfl⟩
    have hu : (A.deeper (envOfC "_law_refused" (defScope sRF) s.heap.objs.size f cdv)).units + 200 < cLine := by have := hr.un; omega
    exact hu
  · refine ⟨⟨q, fun wd ho cls d H2 ⟨hc, e, dd, hd, hx⟩ => ⟨true, by rw [hc]; exact U.te, fun _ a ha => ⟨wd, dd, ?_, ho, hc, hd, hx, fun v H3 e3 hv => l.2.1 _ _ ⟨e.trans e3, by rw [hv, ho]; exact rp_str _⟩⟩, fun h => by cases h⟩⟩, l⟩
    exact List.getElem?_set_self (Nat.lt_of_lt_of_le (by show 4 < 5; omega) q.2.len)
end
end Kp

set_option Elab.async false
set_option linter.all false
set_option maxRecDepth 100000
set_option maxHeartbeats 8000000
namespace Kp
open PySem PySem.Spec PyProof.Rows L2 Pz
abbrev sEH : Stmt := top 48
theorem scEH : FnScope ["_law_n", "_law_fears", "_law_every", "_law_asks", "_law_each"] ["_law_n", "_law_fears"] (defScope sEH) := ⟨rfl, rfl, rfl, by decide +kernel, rfl, by decide +kernel, by decide +kernel⟩
theorem rcd_list {r : List L2.V → Hp → VK → Prop} {ds es : List PyData} (h : RCL r ds es) : RCD r ds (.list es) := fun H vs Q rr q => h H vs Q rr fun p xs H' _ e g z => q _ H' e (rp_lst g z)
structure OkE (n : Nat) (fears : List (List Nat)) : Prop where
  v : V n fears
  fit : fearsFit n fears = true
  at1 : ∃ l, ((atomsL n fears).filter fun a => decide (n - 1 ∈ a))[0]? = some l
def rEH (ds : List PyData) (d : PyData) : Prop := ∃ n fears, OkE n fears ∧ ds = [nat n, lotsD fears] ∧ d = .bool true
def askE (z : Nat × PyData × Str) : PyData := .tuple [nat z.1, z.2.1, .str z.2.2]
def GoodA (n : Nat) (fears : List (List Nat)) (z : Nat × PyData × Str) : Prop := ∃ o, asks n fears z.2.1 z.1 o ∧ (∀ wd, o = .inr wd → Shw (tellD wd)) ∧ toldD o = .str z.2.2
theorem t_lot : (tellD "lot").shown = "('lot', -1)" := by decide +kernel
theorem t_one : (tellD "one").shown = "('one', -1)" := by decide +kernel
theorem t_other : (tellD "other").shown = "('other', -1)" := by decide +kernel
theorem t_house : (tellD "house").shown = "('house', -1)" := by decide +kernel
theorem t_fears : (tellD "fears").shown = "('fears', -1)" := by decide +kernel
theorem shw_tell {wd : Str} (h1 : (tellD wd).shown.length ≤ sizeLine) (h2 : (tellD wd).depth ≤ 100) (h3 : (tellD wd).showable = true) (h4 : (tellD wd).hasDict = false) : Shw (tellD wd) := ⟨h3, h4, h2, h1⟩
theorem s_lot : Shw (tellD "lot") := shw_tell (by decide +kernel) (by decide +kernel) (by decide +kernel) (by decide +kernel)
theorem s_one : Shw (tellD "one") := shw_tell (by decide +kernel) (by decide +kernel) (by decide +kernel) (by decide +kernel)
theorem s_other : Shw (tellD "other") := shw_tell (by decide +kernel) (by decide +kernel) (by decide +kernel) (by decide +kernel)
theorem s_house : Shw (tellD "house") := shw_tell (by decide +kernel) (by decide +kernel) (by decide +kernel) (by decide +kernel)
theorem s_fears : Shw (tellD "fears") := shw_tell (by decide +kernel) (by decide +kernel) (by decide +kernel) (by decide +kernel)
theorem good_no {n : Nat} {fears : List (List Nat)} {i : Nat} {x : PyData} {wd s : Str} (h : asks n fears x i (.inr wd)) (sh : Shw (tellD wd)) (e : (tellD wd).shown = s) : GoodA n fears (i, x, s) := ⟨.inr wd, h, fun _ z => by cases z; exact sh, by rw [← e]; rfl⟩
theorem good_let {n : Nat} {fears : List (List Nat)} {i : Nat} {x d : PyData} (h : asks n fears x i (.inl d)) : GoodA n fears (i, x, "let") := ⟨.inl d, h, (fun _ z => by cases z), rfl⟩
def endsB (n : Nat) : Bool := (lotFits n [n] == false) && lotFits n (List.range n) && lotFits n [] && (fearsFit n [] == false) && (fearsFit n [[n]] == false) && (fearsFit n [List.range n, List.range n] == false) && fearsFit n [[]] &&
  (decide (n ≤ 1) || ((fearsFit n [[0], [0, n - 1]] == false) && (fearsFit n [[n - 1], [0]] == false) && fearsFit n [[0], [n - 1]]))
theorem ends_all : ∀ n < 7, 1 ≤ n → endsB n = true := by decide +kernel
section
variable {P : Program} {w : World} {K : PySem.W.Frag} {mg : Str → Option Value} {base : Heap} {C : Addr}
theorem smallV {n : Nat} {fears : List (List Nat)} (v : V n fears) (ls : List (List Nat)) (h : ls.length ≤ 30) (h2 : ∀ l ∈ ls, l.length ≤ 100) : V n ls := ⟨v.lo, v.hi, h, h2⟩
theorem hf_int {n i : Int} (h : ¬ (0 ≤ i ∧ i < n)) : houseFits n (.int i) = false := by
  show (decide (0 ≤ i) && decide (i < n)) = false
  rw [Bool.and_eq_false_iff]
  by_cases h0 : 0 ≤ i
  · right; exact decide_eq_false fun z => h ⟨h0, z⟩
  · left; exact decide_eq_false h0
theorem ok_EH (T : Aid P w K mg base C) (R : CalG P w K mg base 9 "_law_refused" ["_law_number", "_law_n", "_law_fears", "_law_worth"] (spD rRF)) (F : Has K mg "_law_ends_hold" sEH ["_law_n", "_law_fears"]) : CalG P w K mg base 10 "_law_ends_hold" ["_law_n", "_law_fears"] (spD rEH) := by
  refine okG F scEH (fun ds d ⟨_, _, _, h, _⟩ => by rw [h]; rfl) fun f cdv A outer s H E ds d gd hr hR => ?_
  obtain ⟨n, fears, o, rfl, rfl⟩ := hR
  have B := T.lib.bi
  have hn := o.v.hi
  have hn1 := o.v.lo
  have ef := ends_all n (by omega) hn1
  unfold endsB at ef
  simp only [Bool.and_eq_true, beq_iff_eq, Bool.or_eq_true, decide_eq_true_eq] at ef
  obtain ⟨⟨⟨⟨⟨⟨⟨ef1, ef2⟩, ef3⟩, ef4⟩, ef5⟩, ef6⟩, ef7⟩, ef8⟩ := ef
  obtain ⟨l1, hl1⟩ := o.at1
  refine hs_seq (hs_set (i := 2) (d := lotD (List.range n)) scEH.nd (de_tupRange rfl B.tuple B.range (dv 0) (by omega))) ?_
  refine hs_seq (hs_set (i := 3) scEH.nd (de_dl (dl_lst (ds := [.tuple [nat 0, .tuple [nat n], .str "('lot', -1)"], .tuple [nat 0, lotD (List.range n), .str "let"], .tuple [nat 0, .list ((List.range n).map nat), .str "('lot', -1)"], .tuple [nat 0, .tuple [], .str "let"]])
    (da_cons (de_tup (da_cons (de_k 0) (da_cons (de_tup (da_one (dv 0))) (da_one de_str)))) (da_cons (de_tup (da_cons (de_k 0) (da_cons (dv 2) (da_one de_str)))) (da_cons (de_tup (da_cons (de_k 0) (da_cons (de_callTy call_list_of B.list (by decide +kernel) (da_one (dv 2)) (rcd_list rl_list)) (da_one de_str)))) (da_one (de_tup (da_cons (de_k 0) (da_cons (de_tup da_nil) (da_one de_str)))))))) (by simp)))) ?_
  refine hs_seq (hs_set (i := 3) scEH.nd (de_op op_cat (dv 3) (de_dl (dl_lst (ds := [.tuple [nat 1, nat n, .str "('one', -1)"], .tuple [nat 1, nat 0, .str "('other', -1)"], .tuple [nat 2, nat 0, .str "('other', -1)"], .tuple [nat 2, nat n, .str "('other', -1)"]])
    (da_cons (de_tup (da_cons (de_k 1) (da_cons (dv 0) (da_one de_str)))) (da_cons (de_tup (da_cons (de_k 1) (da_cons (de_k 0) (da_one de_str)))) (da_cons (de_tup (da_cons (de_k 2) (da_cons (de_k 0) (da_one de_str)))) (da_one (de_tup (da_cons (de_k 2) (da_cons (dv 0) (da_one de_str)))))))) (by simp))) (r2_catL (by simp)))) ?_
  refine hs_seq (hs_set (i := 3) scEH.nd (de_op op_cat (dv 3) (de_dl (dl_lst (ds := [.tuple [nat 1, .bool false, .str "('one', -1)"], .tuple [nat 2, .none, .str "('other', -1)"], .tuple [nat 3, nat (n - 1), .str "let"], .tuple [nat 3, nat n, .str "('house', -1)"]])
    (da_cons (de_tup (da_cons (de_k 1) (da_cons de_bl (da_one de_str)))) (da_cons (de_tup (da_cons (de_k 2) (da_cons de_non (da_one de_str)))) (da_cons (de_tup (da_cons (de_k 3) (da_cons (de_op op_sub (dv 0) (de_k 1) (r2_subN hn1)) (da_one de_str)))) (da_one (de_tup (da_cons (de_k 3) (da_cons (dv 0) (da_one de_str)))))))) (by simp))) (r2_catL (by simp)))) ?_
  refine hs_seq (hs_set (i := 3) scEH.nd (de_op op_cat (dv 3) (de_dl (dl_lst (ds := [.tuple [nat 3, .int (-1), .str "('house', -1)"], .tuple [nat 3, .bool false, .str "('house', -1)"], .tuple [nat 4, .tuple [], .str "('fears', -1)"], .tuple [nat 4, lotsD fears, .str "let"]])
    (da_cons (de_tup (da_cons (de_k 3) (da_cons (de_neg de_int) (da_one de_str)))) (da_cons (de_tup (da_cons (de_k 3) (da_cons de_bl (da_one de_str)))) (da_cons (de_tup (da_cons (de_k 4) (da_cons (de_tup da_nil) (da_one de_str)))) (da_one (de_tup (da_cons (de_k 4) (da_cons (dv 1) (da_one de_str)))))))) (by simp))) (r2_catL (by simp)))) ?_
  refine hs_seq (hs_set (i := 3) scEH.nd (de_op op_cat (dv 3) (de_dl (dl_lst (ds := [.tuple [nat 4, .tuple [.tuple [nat n]], .str "('fears', -1)"], .tuple [nat 5, .tuple [lotD (List.range n), lotD (List.range n)], .str "('fears', -1)"], .tuple [nat 5, .tuple [.tuple []], .str "let"]])
    (da_cons (de_tup (da_cons (de_k 4) (da_cons (de_tup (da_one (de_tup (da_one (dv 0))))) (da_one de_str)))) (da_cons (de_tup (da_cons (de_k 5) (da_cons (de_tup (da_cons (dv 2) (da_one (dv 2)))) (da_one de_str)))) (da_one (de_tup (da_cons (de_k 5) (da_cons (de_tup (da_one (de_tup da_nil))) (da_one de_str))))))) (by simp))) (r2_catL (by simp)))) ?_
  let L0 : List (Nat × PyData × Str) := [(0, lotD [n], "('lot', -1)"), (0, lotD (List.range n), "let"), (0, .list ((List.range n).map nat), "('lot', -1)"), (0, lotD [], "let"), (1, nat n, "('one', -1)"), (1, nat 0, "('other', -1)"), (2, nat 0, "('other', -1)"), (2, nat n, "('other', -1)"),
    (1, .bool false, "('one', -1)"), (2, .none, "('other', -1)"), (3, nat (n - 1), "let"), (3, nat n, "('house', -1)"), (3, .int (-1), "('house', -1)"), (3, .bool false, "('house', -1)"), (4, lotsD [], "('fears', -1)"), (4, lotsD fears, "let"), (4, lotsD [[n]], "('fears', -1)"), (5, lotsD [List.range n, List.range n], "('fears', -1)"), (5, lotsD [[]], "let")]
  have z0 : houseFits (n : Int) (nat n) = false := hf_int (by omega)
  have zF : fearsFit n [] = false := ef4
  have g0 : ∀ z ∈ L0, GoodA n fears z := by
    intro z hz
    simp only [L0, List.mem_cons, List.not_mem_nil, or_false] at hz
    have noF : ∀ {ls : List (List Nat)}, V n ls → fearsFit n ls = false → rAtomsOf [nat n, lotsD ls] (.inr "fears") := fun v h => ⟨n, _, v, rfl, by rw [h]; rfl⟩
    have noP : ∀ {ls : List (List Nat)}, V n ls → fearsFit n ls = false → rPartsOf [nat n, lotsD ls] (.inr "fears") := fun v h => ⟨n, _, v, rfl, by rw [h]; rfl⟩
    rcases hz with rfl | rfl | rfl | rfl | rfl | rfl | rfl | rfl | rfl | rfl | rfl | rfl | rfl | rfl | rfl | rfl | rfl | rfl | rfl
    · exact good_no (wd := "lot") ⟨n, fears, o.v, o.fit, .inl ⟨[n], by simp, rfl, by rw [ef1]; rfl⟩⟩ s_lot t_lot
    · exact good_let ⟨n, fears, o.v, o.fit, .inl ⟨List.range n, by simp; omega, rfl, by rw [if_pos ef2]⟩⟩
    · exact good_no (wd := "lot") ⟨n, fears, o.v, o.fit, .inr ⟨_, rfl, rfl⟩⟩ s_lot t_lot
    · exact good_let ⟨n, fears, o.v, o.fit, .inl ⟨[], by simp, rfl, by rw [if_pos ef3]⟩⟩
    · exact good_no (wd := "one") ⟨n, fears, o.v, o.fit, .inl ⟨_, _, rfl, z0, rfl, rfl⟩⟩ s_one t_one
    · exact good_no (wd := "other") ⟨n, fears, o.v, o.fit, .inr (.inr ⟨0, 0, by omega, by omega, rfl, rfl⟩)⟩ s_other t_other
    · exact good_no (wd := "other") ⟨n, fears, o.v, o.fit, .inr (.inr ⟨0, 0, by omega, by omega, rfl, rfl⟩)⟩ s_other t_other
    · exact good_no (wd := "other") ⟨n, fears, o.v, o.fit, .inr (.inl ⟨0, _, by omega, rfl, z0, rfl, rfl⟩)⟩ s_other t_other
    · exact good_no (wd := "one") ⟨n, fears, o.v, o.fit, .inl ⟨_, _, rfl, rfl, rfl, rfl⟩⟩ s_one t_one
    · exact good_no (wd := "other") ⟨n, fears, o.v, o.fit, .inr (.inl ⟨0, _, by omega, rfl, rfl, rfl, rfl⟩)⟩ s_other t_other
    · exact good_let ⟨n, fears, o.v, o.fit, .inl ⟨n - 1, l1, by omega, hl1, rfl, rfl⟩⟩
    · exact good_no (wd := "house") ⟨n, fears, o.v, o.fit, .inr ⟨_, rfl, z0, rfl, rfl⟩⟩ s_house t_house
    · exact good_no (wd := "house") ⟨n, fears, o.v, o.fit, .inr ⟨_, rfl, hf_int (by omega), rfl, rfl⟩⟩ s_house t_house
    · exact good_no (wd := "house") ⟨n, fears, o.v, o.fit, .inr ⟨_, rfl, rfl, rfl, rfl⟩⟩ s_house t_house
    · exact good_no (wd := "fears") (noF (smallV o.v [] (by simp) (by simp)) zF) s_fears t_fears
    · exact good_let (i := 4) ⟨n, fears, o.v, rfl, by rw [if_pos o.fit]⟩
    · exact good_no (wd := "fears") (noF (smallV o.v [[n]] (by simp) (by simp)) ef5) s_fears t_fears
    · exact good_no (wd := "fears") (noP (smallV o.v [List.range n, List.range n] (by simp) (by simp; omega)) ef6) s_fears t_fears
    · exact good_let (i := 5) ⟨n, [[]], smallV o.v [[]] (by simp) (by simp), rfl, by rw [if_pos ef7]⟩
  let ρ : List (Nat × PyData × Str) → Pz.Env := fun L => [some (nat n), some (lotsD fears), some (lotD (List.range n)), some (.list (L.map askE)), none]
  show HSs _ _ (At H (ρ L0)) _
  refine hs_seq (M := fun σ H' => ∃ L, (∀ z ∈ L, GoodA n fears z) ∧ At H (ρ L) σ H') ?_ (hss_ex fun L => hss_fact fun hL => ?_)
  · refine hs_if (dt_cmp op_gt (dv 0) (de_k 1) r2_gtN) (fun h => ?_) (fun h => hs_nil fun σ H' q => ⟨L0, g0, q⟩)
    have h1 : 1 < n := of_decide_eq_true h
    obtain ⟨⟨e1, e2⟩, e3⟩ := ef8.resolve_left (by omega)
    let L1 : List (Nat × PyData × Str) := [(1, nat (n - 1), "let"), (2, nat (n - 1), "let"), (5, lotsD [[0], [0, n - 1]], "('fears', -1)"), (4, lotsD [[n - 1], [0]], "('fears', -1)"), (4, lotsD [[0], [n - 1]], "let")]
    refine hs_seq (hs_set (i := 3) scEH.nd (de_op op_cat (dv 3) (de_dl (dl_lst (ds := [.tuple [nat 1, nat (n - 1), .str "let"], .tuple [nat 2, nat (n - 1), .str "let"], .tuple [nat 5, .tuple [.tuple [nat 0], .tuple [nat 0, nat (n - 1)]], .str "('fears', -1)"]])
      (da_cons (de_tup (da_cons (de_k 1) (da_cons (de_op op_sub (dv 0) (de_k 1) (r2_subN hn1)) (da_one de_str)))) (da_cons (de_tup (da_cons (de_k 2) (da_cons (de_op op_sub (dv 0) (de_k 1) (r2_subN hn1)) (da_one de_str)))) (da_one (de_tup (da_cons (de_k 5) (da_cons (de_tup (da_cons (de_tup (da_one (de_k 0))) (da_one (de_tup (da_cons (de_k 0) (da_one (de_op op_sub (dv 0) (de_k 1) (r2_subN hn1)))))))) (da_one de_str)))))))
      (by simp))) (r2_catL (by simp [L0])))) ?_
    refine hs_one (hs_setZ (i := 3) scEH.nd (de_op op_cat (dv 3) (de_dl (dl_lst (ds := [.tuple [nat 4, .tuple [.tuple [nat (n - 1)], .tuple [nat 0]], .str "('fears', -1)"], .tuple [nat 4, .tuple [.tuple [nat 0], .tuple [nat (n - 1)]], .str "let"]])
      (da_cons (de_tup (da_cons (de_k 4) (da_cons (de_tup (da_cons (de_tup (da_one (de_op op_sub (dv 0) (de_k 1) (r2_subN hn1)))) (da_one (de_tup (da_one (de_k 0)))))) (da_one de_str)))) (da_one (de_tup (da_cons (de_k 4) (da_cons (de_tup (da_cons (de_tup (da_one (de_k 0))) (da_one (de_tup (da_one (de_op op_sub (dv 0) (de_k 1) (r2_subN hn1))))))) (da_one de_str))))))
      (by simp))) (r2_catL (by simp [L0]))) (Fgt.refl _) fun σ H' q => ?_)
    refine ⟨L0 ++ L1, fun z hz => ?_, q⟩
    rcases List.mem_append.mp hz with hz | hz
    · exact g0 z hz
    · simp only [L1, List.mem_cons, List.not_mem_nil, or_false] at hz
      rcases hz with rfl | rfl | rfl | rfl | rfl
      · exact good_let ⟨n, fears, o.v, o.fit, .inr (.inr ⟨n - 1, 0, by omega, by omega, rfl, by rw [if_neg (by omega)]⟩)⟩
      · exact good_let ⟨n, fears, o.v, o.fit, .inr (.inr ⟨0, n - 1, by omega, by omega, rfl, by rw [if_neg (by omega)]⟩)⟩
      · exact good_no (wd := "fears") (⟨n, _, smallV o.v [[0], [0, n - 1]] (by simp) (by simp), rfl, by rw [e1]; rfl⟩ : rPartsOf [nat n, lotsD [[0], [0, n - 1]]] (.inr "fears")) s_fears t_fears
      · exact good_no (wd := "fears") (⟨n, _, smallV o.v [[n - 1], [0]] (by simp) (by simp), rfl, by rw [e2]; rfl⟩ : rAtomsOf [nat n, lotsD [[n - 1], [0]]] (.inr "fears")) s_fears t_fears
      · exact good_let (i := 4) ⟨n, [[0], [n - 1]], smallV o.v _ (by simp) (by simp), rfl, by rw [if_pos e3]⟩
  · refine hs_seq (M := At H (ρ L)) ?_ (hs_one (hs_ret de_bl))
    refine hs_forT (k := 4) (J := fun _ => ρ L) (xs := L) (enc := askE) PassesOwn.never rfl (di_list (dv 3)) (pg_name (i := 4) scEH.nd rfl (by first | exact .inl rfl | exact .inr rfl)) (Fgt.refl _) (fun H1 e1 i z hi => ?_) (fun _ _ q => q)
    obtain ⟨o', h1, h2, h3⟩ := hL z (List.mem_of_getElem? hi)
    obtain ⟨j, x, st⟩ := z
    exact hs_one (hs_guardZ (b := false) (dt_of (dt_cmp op_ne (de_callG (d := .str st) R gd hr (by decide) (da_cons (de_ix ix_tup (dv (d := .tuple [nat j, x, .str st]) 4) (de_k 0) (r2_ixT (k := 0) (d := nat j) rfl rfl)) (da_cons (dv 0) (da_cons (dv 1) (da_one (de_ix ix_tup (dv (d := .tuple [nat j, x, .str st]) 4) (de_k 1) (r2_ixT (k := 1) (d := x) rfl rfl))))))
      ⟨j, n, fears, x, o', h1, h2, rfl, h3.symm⟩) (de_ix ix_tup (dv (d := .tuple [nat j, x, .str st]) 4) (de_k 2) (r2_ixT (k := 2) (d := .str st) rfl rfl)) r2_neS) (by simp)) (fun h => by cases h) fun _ σ H' q => q.fgt (fgt_of (by simp [fgtB, ρ])))
end
end Kp

set_option Elab.async false
set_option linter.all false
set_option maxRecDepth 100000
set_option maxHeartbeats 8000000
namespace Kp
open PySem PySem.Spec PyProof.Rows L2 Pz
abbrev sLaw : Stmt := top 49
theorem scLaw : FnScope ["_law_script", "_law_source", "_law_n", "_law_tops", "_law_fears", "_law_parted", "_law_mates", "_law_cell", "_law_house"] ["_law_script"] (defScope sLaw) := ⟨rfl, rfl, rfl, by decide +kernel, rfl, by decide +kernel, by decide +kernel⟩
/-- all that the law says of the marks drawn -/
structure AllOk (n : Nat) (marks : List Nat) : Prop where
  p : OkP n (setM n (topsM marks)) (topsM marks) (partsM n (topsM marks))
  a : OkA n (setM n (topsM marks)) (partsM n (topsM marks))
  r : OkR n (setM n (topsM marks)) (partsM n (topsM marks))
  t : OkT n (setM n (topsM marks)) (partsM n (topsM marks))
  e : OkE n (setM n (topsM marks))
def Mathm : Prop := ∀ (n : Nat) (marks : List Nat), 1 ≤ n → n ≤ 6 → marks ≠ [] → marks.length ≤ 30 → (∀ m ∈ marks, m < 2 ^ n) → AllOk n marks
def spLaw (K : PySem.W.Frag) : Sp := fun vs H Q _ => ∃ (a : Addr) (ns : List Int), vs = [.ref a] ∧ ns.length ≤ 1000 ∧ SqL K H a (ns.map V.int) ∧ ∀ H', Q (.bl true) H'
section
variable {X : Cx} {rest : List Stmt} {Z : Ends}
def Opn (i m : Nat) : As := fun σ H => ∃ (p c : Addr) (t : Int) (ns : List Int), p ≠ c ∧ H p = some (.dK (kvS c t)) ∧ H c = some (.lst (ns.map V.int)) ∧ σ[i]? = some (some (.ref p)) ∧ m ≤ σ.length
theorem inv_retell {pins : List (Addr × Obj)} {σ : L2.St} {H : Hp} {s : Shared} {p c : Addr} {t : Int} {ns : List Int} (I : Inv X pins σ H s) (hne : p ≠ c) (hp : H p = some (.dK (kvS c t))) (hc : H c = some (.lst (ns.map V.int))) :
    Inv X pins σ (upd2 H p c (srcO X.prog X.w p c) (celO X.prog X.w c)) s := by
  have no : ∀ {b : Addr}, H b = none → upd2 H p c (srcO X.prog X.w p c) (celO X.prog X.w c) b = none := fun {b} h => by
    rw [upd2_ne (fun z => by rw [z, hp] at h; cases h) fun z => by rw [z, hc] at h; cases h]
    exact h
  have yes : ∀ {b : Addr} {o : HO}, H b = some o → o ≠ .dK (kvS c t) → o ≠ .lst (ns.map V.int) → upd2 H p c (srcO X.prog X.w p c) (celO X.prog X.w c) b = some o := fun {b o} h n1 n2 => by
    rw [upd2_ne (fun z => by rw [z, hp] at h; exact n1 (Option.some.inj h).symm) fun z => by rw [z, hc] at h; exact n2 (Option.some.inj h).symm]
    exact h
  have u := I.base
  exact { ok := I.ok, os := I.os, bare := I.bare, loc := I.loc, cell := I.cell, free := no I.free, freeC := fun x d h => no (I.freeC x d h), len := I.len, hok := closeH I.hok hne hp hc,
          pin := fun q hq => ⟨(I.pin q hq).1, no (I.pin q hq).2.1, (I.pin q hq).2.2⟩,
          base := { keep := u.keep, slot := u.slot, there := u.there, free := fun b o h1 h2 h3 => no (u.free b o h1 h2 h3), tups := fun b xs h => yes (u.tups b xs h) (fun z => (by cases z)) (fun z => (by cases z)),
                    frzs := fun b o v h => yes (u.frzs b o v h) (fun z => (by cases z)) (fun z => (by cases z)), tbls := fun b ps h => by
                      obtain ⟨more, h2⟩ := u.tbls b ps h
                      exact ⟨more, yes h2 (fun z => by cases z) fun z => by cases z⟩ } }
theorem hss_retell {i m : Nat} (h : ∀ (p c : Addr) (H1 : Hp), SrcH X.prog X.w p c H1 → HSs X rest (At H1 ((List.replicate m (none : Option PyData)).set i (some (srcD p c)))) Z) (hi : i < m) : HSs X rest (Opn i m) Z := ⟨fun pins s σ H D I ⟨⟨p, c, t, ns, hne, hp, hc, hs, hm⟩, l⟩ =>
  (h p c (upd2 H p c (srcO X.prog X.w p c) (celO X.prog X.w c)) ⟨hne, upd2_p hne, upd2_c⟩).run pins s σ _ D (inv_retell I hne hp hc) ⟨⟨Same.refl _, by rw [List.length_set, List.length_replicate]; exact hm, fun j d hd => by
    by_cases hj : j = i
    · subst hj
      rw [List.getElem?_set_self (by rw [List.length_replicate]; exact hi)] at hd
      cases hd
      exact ⟨_, hs, rp_src p c⟩
    · rw [List.getElem?_set_ne (Ne.symm hj), List.getElem?_replicate] at hd
      split at hd <;> cases hd⟩, l⟩⟩
theorem serves_seq {K : PySem.W.Frag} {H : Hp} {a : Addr} {ns : List Int} (h : SqL K H a (ns.map V.int)) : Serves (Itl K a) H (ns.map .int) := fun H' e => by
  have h' := e.seq h
  refine ⟨fun i d hd => ?_, ⟨_, h', by rw [List.length_map, List.length_map]; exact Nat.le_refl _⟩⟩
  rw [List.getElem?_map] at hd
  obtain ⟨z, hz, rfl⟩ := Option.map_eq_some_iff.mp hd
  have hx : (ns.map V.int)[i]? = some (V.int z) := by rw [List.getElem?_map, hz]; rfl
  refine ⟨⟨_, _, h', hx⟩, fun y H'' hy => ⟨hy.1, ?_⟩⟩
  have q := hy.2 _ h'
  rw [hx] at q
  cases q
  exact rp_int z
end
section
variable {P : Program} {w : World} {K : PySem.W.Frag} {mg : Str → Option Value} {base : Heap} {C : Addr}
/-- the law's parts -/
structure Parts (P : Program) (w : World) (K : PySem.W.Frag) (mg : Str → Option Value) (base : Heap) (C : Addr) : Prop where
  aid : Aid P w K mg base C
  drawn : Cal P w K mg base CX0 3 "_law_drawn_marks" ["_law_source", "_law_n"] (spN P w rDrawn)
  pairs : Cal P w K mg base CX0 2 "_law_pairs" ["_law_source", "_law_n"] (spN P w rPairs)
  ph : CalG P w K mg base 9 "_law_partings_hold" ["_law_n", "_law_fears", "_law_tops", "_law_parted"] (spD rPH)
  ah : CalG P w K mg base 9 "_law_atoms_hold" ["_law_n", "_law_fears", "_law_parted", "_law_mates"] (spD rAH)
  rh : CalG P w K mg base 9 "_law_parting_hold" ["_law_n", "_law_fears", "_law_parted", "_law_mates", "_law_pairs_here"] (spD rRH)
  th : CalG P w K mg base 9 "_law_turned_hold" ["_law_n", "_law_fears", "_law_parted", "_law_mates"] (spD rTH)
  fh : CalG P w K mg base 9 "_law_few_hold" ["_law_source", "_law_n"] (spQ P w rFH)
  eh : CalG P w K mg base 10 "_law_ends_hold" ["_law_n", "_law_fears"] (spD rEH)
theorem tops_len {marks : List Nat} (h : marks.length ≤ 30) : (topsM marks).length ≤ 30 := by
  have := topsN_len marks marks []
  have h0 : ([] : List Nat).length = 0 := rfl
  unfold topsM
  omega
theorem partsM_len {n : Nat} (hn : n ≤ 6) (tops : List Nat) : (partsM n tops).length ≤ 64 := by
  have := List.length_filter_le (fun m => decide (0 < cntM tops m) && decide (0 < cntM tops (fullN n - m))) (List.range (2 ^ n))
  rw [List.length_range] at this
  have := p26 hn
  unfold partsM
  omega
theorem ok_law (M : Mathm) (T : Parts P w K mg base C) {f : Addr} {fd : FuncData} (F : Fun K "law" "law" sLaw f fd) : FnG P w K mg base 11 f fd ["_law_script"] (spLaw K) := by
  refine fnG_of F scLaw (fun vs H Q E ⟨a, ns, h, _⟩ => by rw [h]; rfl) fun cdv A outer s H vs Q E gd hr ⟨a, ns, hvs, hlen, hS, q⟩ => ?_
  subst hvs
  have B := T.aid.lib.bi
  let ρ0 : Addr → Addr → Pz.Env := fun p c => [none, some (srcD p c), none, none, none, none, none, none, none]
  have body : HSs (cxOf CX0 P w K mg base ["_law_script", "_law_source", "_law_n", "_law_tops", "_law_fears", "_law_parted", "_law_mates", "_law_cell", "_law_house"] "law" (defScope sLaw) f cdv A outer s H E).nox (defBody sLaw)
      (fun σ H' => σ[0]? = some (some (.ref a)) ∧ 9 ≤ σ.length ∧ SqL K H' a (ns.map V.int)) { nx := fun _ _ => False, rt := fun v _ => v = .bl true } := by
    refine hs_seq (M := Opn 1 9) (PS_imp (ps_set (i := 1) scLaw.nd rfl (by first | exact .inl rfl | exact .inr rfl) (pe_disp (pps_cons (de_str (ρ := [])) (pe_lc (g := gName 7) (tt := lcT (List.replicate 9 none) 7 PyData.int ns (fun _ => true)) (te := lcE (List.replicate 9 none) 7 PyData.int ns (fun _ => true) PyData.int) (own := [("_law_cell", 7)]) rfl scLaw.nd (pi_list (pv 0)) (blkOk_by (by kernel_rfl))
      (fun s H C cl fp => pg_name (i := 7) scLaw.nd rfl (by first | exact .inl rfl | exact .inr rfl)) (fun s H C cl fp => ⟨fun pins s' σ H' Q I q => by obtain ⟨d, m, q⟩ := q; exact (dts_nil (ρ := ((List.replicate 9 none).set 7 none).set 7 (some (PyData.int d)))).run pins s' σ H' Q I q⟩)
      (fun s H C cl fp => ⟨fun pins s' σ H' Q I q => by obtain ⟨d, m, hf, q⟩ := q; exact (dv (ρ := ((List.replicate 9 none).set 7 none).set 7 (some (PyData.int d))) 7).run pins s' σ H' Q I q⟩) (by intro _; rfl))
      (pps_cons (de_str (ρ := [])) (de_int (ρ := [])) pps_nil)) rfl rfl (by simp) (by decide))) fun D σ H' ⟨⟨h0, h9, hs⟩, l⟩ => ?_) ?_
    · have satE : ∀ {H : Hp}, Sat [] σ H := ⟨Nat.zero_le _, fun i d h => by simp at h⟩
      have satR : ∀ {H : Hp}, Sat (List.replicate 9 none) σ H := ⟨by rw [List.length_replicate]; exact h9, fun i d h => by
        rw [List.getElem?_replicate] at h
        split at h <;> cases h⟩
      refine fun p hp => ⟨satE, fun x H1 e1 rx => ?_⟩
      have hs1 : SqL K H1 a (ns.map V.int) := e1.seq ((same_new hp).seq hs)
      have hp1 : H1 p = some (.dK []) := e1 _ _ upd_same
      have key : ∀ Q, tL (List.replicate 9 none) ((ns.filter fun _ => true).map PyData.int) σ H1 Q → tLc (iList K (tVar 0)) (gName 7) (lcT (List.replicate 9 none) 7 PyData.int ns (fun _ => true)) (lcE (List.replicate 9 none) 7 PyData.int ns (fun _ => true) PyData.int) [7] σ H1 Q := fun Q h => by
        have tl := lc_imp (i := 7) (enc := PyData.int) (f := fun _ => true) (g := PyData.int) (fun _ _ _ => imm_int _) hlen σ H1 Q h
        obtain ⟨_, k⟩ := tl
        exact ⟨.ref a, h0, a, rfl, ⟨_, hs1⟩, k (Itl K a) H1 (Same.refl _) (serves_seq hs1)⟩
      refine key _ ⟨satR, fun c ys H2 n2 e2 g2 r2 => ?_⟩
      refine ⟨satE, fun x2 H3 e3 r3 => ⟨satE, fun y2 H4 e4 r4 => ⟨e4 _ _ (e3 _ _ (e2 _ _ hp1)), [(.inr "cells", .ref c), (.inr "turn", .int 0)], ?_, (by show 2 ≤ 15; omega), l.1 _ _ ?_⟩⟩⟩
      · rw [rx.isStr, r3.isStr, r4.isInt]; rfl
      · have ne : p ≠ c := fun z => by rw [← z, hp1] at n2; cases n2
        rw [filt_all] at r2
        have ey := r2.ints
        subst ey
        refine ⟨p, c, 0, ns, ne, ?_, by rw [upd_ne (Ne.symm ne)]; exact e4 _ _ (e3 _ _ g2), List.getElem?_set_self (by omega), by rw [List.length_set]; exact h9⟩
        rw [upd_same]
        rfl
    refine hss_retell (fun p c H1 S => ?_) (by decide)
    show HSs _ _ (At H1 [none, some (srcD p c), none, none, none, none, none, none, none]) _
    refine hs_seq (M := fun σ H' => ∃ n : Nat, (1 ≤ n ∧ n ≤ 6) ∧ At H1 [none, some (srcD p c), some (nat n), none, none, none, none, none, none] σ H')
      (PS_imp (ps_set (i := 2) scLaw.nd rfl (by first | exact .inl rfl | exact .inr rfl) (pe_ix ix_list (dl_lst (ρ := ρ0 p c) (da_cons (de_k 3) (da_cons (de_k 4) (da_cons (de_k 5) (da_cons (de_k 6) (da_cons (de_k 2) (da_cons (de_k 4) (da_cons (de_k 1) (da_one (de_k 5)))))))))) (pe_draw (ρ := ρ0 p c) (p := p) (c := c) (top := 8) T.aid.draw hr (by decide) (dv 1) (de_k 8) (by decide) (by decide)) (fun _ _ => rfl)))
        fun D σ H' ⟨q, l⟩ => ⟨q.2, fun q1 ys H2 n1 e1 g1 r1 => ⟨q.2.mono e1, S.mono (q.1.trans e1), fun r H3 hr3 e3 => ?_⟩⟩) (hss_ex fun n => hss_fact fun ⟨hn1, hn⟩ => ?_)
    · obtain ⟨n, hn, h1, h6⟩ : ∃ n : Nat, ([nat 3, nat 4, nat 5, nat 6, nat 2, nat 4, nat 1, nat 5] : List PyData)[r]? = some (nat n) ∧ 1 ≤ n ∧ n ≤ 6 := by
        match r, hr3 with
        | 0, _ => exact ⟨3, rfl, by decide, by decide⟩
        | 1, _ => exact ⟨4, rfl, by decide, by decide⟩
        | 2, _ => exact ⟨5, rfl, by decide, by decide⟩
        | 3, _ => exact ⟨6, rfl, by decide, by decide⟩
        | 4, _ => exact ⟨2, rfl, by decide, by decide⟩
        | 5, _ => exact ⟨4, rfl, by decide, by decide⟩
        | 6, _ => exact ⟨1, rfl, by decide, by decide⟩
        | 7, _ => exact ⟨5, rfl, by decide, by decide⟩
      obtain ⟨v, hv1, hv2⟩ := r1.get hn
      exact ⟨q1, ys, (r : Int), v, rfl, rfl, SqL.of (e3 _ _ g1), atI_nat hv1, l.1 _ _ ⟨n, ⟨h1, h6⟩, q.1.trans (e1.trans e3), Sat.set (i := 2) (q.2.mono (e1.trans e3)) (by rw [hv2.isInt]; exact rp_int _)⟩⟩
    let ρ1 : Pz.Env := [none, some (srcD p c), some (nat n), none, none, none, none, none, none]
    obtain ⟨fg, fgd, Gg, gm, gk, gb⟩ := T.aid.greatest.ex
    refine hs_seq (M := fun σ H' => ∃ marks : List Nat, (marks ≠ [] ∧ marks.length ≤ 30 ∧ ∀ m ∈ marks, m < 2 ^ n) ∧ At H1 [none, some (srcD p c), some (nat n), some (marksD (topsM marks)), none, none, none, none, none] σ H')
      (PS_imp (ps_set (i := 3) scLaw.nd rfl (by first | exact .inl rfl | exact .inr rfl) (pe_call Gg (hr.mono (by decide)) rfl gm gk gb .nil pass0 (pa_cons (pe_callN (ρ := ρ1) (p := p) (c := c) T.drawn hr (by decide) (da_cons (dv 1) (da_one (dv 2))) ⟨n, hn1, hn, rfl, rfl⟩) pa_nil)))
        fun D σ H' ⟨q, l⟩ => ⟨q.2, S.mono q.1, fun zs ⟨marks, ez, m1, m2, m3⟩ q1 xs H2 _ e2 g2 r2 => ?_⟩) (hss_ex fun marks => hss_fact fun ⟨m1, m2, m3⟩ => ?_)
    · exact ⟨[marksD marks], _, ⟨marks, by omega, rfl, rfl⟩, rpa_cons (rp_lst g2 (by rw [← ez]; exact r2)) rpa_nil, fun q3 ys H3 n3 e3 g3 r3 => l.1 _ _ ⟨marks, ⟨m1, m2, m3⟩, q.1.trans (e2.trans e3), Sat.set (i := 3) (q.2.mono (e2.trans e3)) (rp_lst g3 r3)⟩⟩
    obtain ⟨Op, Oa, Orr, Ot, Oe⟩ := M n marks hn1 hn m1 m2 m3
    have tl := tops_len m2
    have ptl := partsM_len hn (topsM marks)
    generalize topsM marks = tops at Op Oa Orr Ot Oe tl ptl ⊢
    refine hs_seq (hs_set (i := 4) scLaw.nd (de_call T.aid.setOf hr (by decide) (da_cons (dv 2) (da_one (dv 3))) ⟨n, tops, hn, by omega, rfl, rfl⟩)) ?_
    refine hs_seq (hs_set (i := 5) (d := marksD (partsM n tops)) scLaw.nd (de_dl (dl_call T.aid.partings hr (by decide) (da_cons (dv 2) (da_one (dv 3))) ⟨n, tops, hn, by omega, rfl, rfl⟩))) ?_
    refine hs_seq (hs_lc (i := 6) (ds := (List.range n).map fun h => lotD (mateOf n (partsM n tops) h)) (pl_map (xs := List.range n) (enc := nat) (i := 8) (j := 6) (fun h => lotD (mateOf n (partsM n tops) h)) rfl scLaw.nd (di_r1 B.range (dv 2) (by omega))
      (fun _ _ _ _ _ h hh => de_call T.aid.atomOf hr (by decide) (da_cons (dv 2) (da_cons (dv 5) (da_one (dv 8)))) ⟨n, partsM n tops, h, hn, by have := List.mem_range.mp hh; omega, by omega, rfl, rfl⟩) (fun _ _ => imm_lot _) (by simp; omega))) ?_
    let ρ2 : Pz.Env := [none, some (srcD p c), some (nat n), some (marksD tops), some (lotsD (setM n tops)), some (marksD (partsM n tops)), some (matesP n (partsM n tops)), none, none]
    show HSs _ _ (At H1 ρ2) _
    refine hs_seq (hs_guard (b := false) (dt_w (dw_or (k := false) (m := false) (dt_not (k := true) (dt_val (de_callG T.ph gd hr (by decide) (da_cons (dv 2) (da_cons (dv 4) (da_cons (dv 3) (da_one (dv 5))))) ⟨n, _, tops, _, Op, rfl, rfl⟩))) fun _ => dw_or1 (dt_not (k := true) (dt_val (de_callG T.ah gd hr (by decide) (da_cons (dv 2) (da_cons (dv 4) (da_cons (dv 5) (da_one (dv 6))))) ⟨n, _, _, Oa, rfl, rfl⟩))))) (fun h => by cases h)) (hss_fact fun _ => ?_)
    refine hs_seq (M := At H1 ρ2) (hs_ifN (p := p) (c := c) (ρ := ρ2) (C := fun b => b = false) (PT_imp (pt_not (pt_val (pe_callG T.rh gd hr (by decide) (pa_cons (dv (ρ := ρ2) 2) (pa_cons (dv (ρ := ρ2) 4) (pa_cons (dv (ρ := ρ2) 5) (pa_cons (dv (ρ := ρ2) 6) (pa_cons (pe_callN (ρ := ρ2) (p := p) (c := c) T.pairs hr (by decide) (da_cons (dv 1) (da_one (dv 2))) ⟨n, hn, rfl, rfl⟩) pa_nil)))))) (by intro _; rfl))) fun σ H' Q ⟨s0, SS, q⟩ => ?_)
      (fun σ H' q => ⟨q.2, S.mono q.1⟩) at_stab (fun h => by cases h) fun _ _ q => q) ?_
    · refine ⟨s0, fun v1 h1 e1 r1 => ⟨s0.mono e1, fun v2 h2 e2 r2 => ⟨s0.mono (e1.trans e2), fun v3 h3 e3 r3 => ⟨s0.mono (e1.trans (e2.trans e3)), fun v4 h4 e4 r4 => ?_⟩⟩⟩⟩
      have e14 := e1.trans (e2.trans (e3.trans e4))
      refine ⟨s0.mono e14, SS.mono e14, fun zs ⟨prs, hprs, ez⟩ q1 xs h5 _ e5 g5 r5 => ?_⟩
      refine ⟨[nat n, lotsD (setM n tops), marksD (partsM n tops), matesP n (partsM n tops), .list (prs.map pairD)], .bool true, ⟨n, _, _, prs, Orr, hprs, rfl, rfl⟩, ?_, fun v H6 e6 r6 => ⟨true, r6.isBl, q _ H6 rfl (e14.trans (e5.trans e6))⟩⟩
      exact rpa_cons (Rp.mono (e2.trans (e3.trans (e4.trans e5))) _ _ r1) (rpa_cons (Rp.mono (e3.trans (e4.trans e5)) _ _ r2) (rpa_cons (Rp.mono (e4.trans e5) _ _ r3) (rpa_cons (Rp.mono e5 _ _ r4) (rpa_cons (rp_lst g5 (by rw [← ez]; exact r5)) rpa_nil))))
    refine hs_seq (M := At H1 ρ2) (hs_ifN (p := p) (c := c) (ρ := ρ2) (C := fun b => b = false) (PT_imp (pw_or (dt_not (k := true) (dt_val (de_callG (ρ := ρ2) T.th gd hr (by decide) (da_cons (dv 2) (da_cons (dv 4) (da_cons (dv 5) (da_one (dv 6))))) ⟨n, _, _, Ot, rfl, rfl⟩))) (pw_or1 (pt_not (pt_val (pe_callG T.fh gd hr (by decide) (da_cons (dv (ρ := ρ2) 1) (da_one (dv (ρ := ρ2) 2)))) (by intro _; rfl))))).pt fun σ H' Q ⟨s0, SS, q⟩ => ?_)
      (fun σ H' q => ⟨q.2, S.mono q.1⟩) at_stab (fun h => by cases h) fun _ _ q => q) ?_
    · refine ⟨s0, fun h1 e1 => iteF ⟨s0.mono e1, fun vs h2 e2 r2 => ?_⟩⟩
      exact ⟨p, c, [nat n], .bool true, ⟨n, hn1, hn, rfl, rfl⟩, r2, SS.mono (e1.trans e2), fun v H6 e6 r6 => ⟨true, r6.isBl, q _ H6 rfl (e1.trans (e2.trans e6))⟩⟩
    exact hs_one (hs_ret (de_callG T.eh gd hr (by decide) (da_cons (dv 2) (da_one (dv 4))) ⟨n, _, Oe, rfl, rfl⟩) fun v H' q => q.2.isBl)
  refine ⟨_, body, ⟨rfl, ?_, hS⟩, fun _ _ h => h.elim, fun v H' h => by rw [h]; exact q H', fun _ _ h => h.elim, fun _ _ h => h.elim⟩
  show 9 ≤ (L2.start (List.replicate 9 ("" : Str)) [V.ref a]).length
  unfold L2.start
  rw [List.length_append, List.length_map, List.length_replicate]
  simp
end
end Kp

set_option Elab.async false
set_option linter.all false
set_option maxRecDepth 100000
set_option maxHeartbeats 8000000
namespace Kp
open PySem PySem.Spec PyProof.Rows L2 Pz
section
variable {P : Program} {w : World} {K : PySem.W.Frag} {mg mb : Str → Option Value} {base h : Heap} {C : Addr}
theorem has_mk {x : String} {st : Stmt} {ps : List Str} {f : Addr} {oc kV doc pm cdv ct : Value} {od an : Option Addr} {osl : Array (Option Value)} (X : K.In h) (G : h.Ns mainGlobals mg) (a : PySem.W.nsIn K mainGlobals x = some (some (.ref f)))
    (l : K.lookup f = some ⟨oc, od, .func (PySem.W.fnOf x x (defArgs st) (defBody st) (defScope st) .none kV doc pm an cdv ct), osl⟩) (c : PySem.W.codeIn K cdv x = true) (k : PySem.W.keepIn K (.ref f) = true)
    (b : ∀ (kV doc pm : Value) (an : Option Addr) (cdv ct : Value) (us : List Value), us.length = ps.length → bindArgs (PySem.W.fnOf x x (defArgs st) (defBody st) (defScope st) .none kV doc pm an cdv ct) ⟨us, []⟩ = pure (ps.zip us)) : Has K mg x st ps :=
  ⟨f, _, fun_mk l c k, PySem.W.mg_of X G a, (fun_mk l c k).binds b⟩
theorem need {α : Prop} (_ : K.In h) (x : String) (st : Stmt) (ps : List Str) (k : Has K mg x st ps) (r : Has K mg x st ps → α) : α := r k
theorem oex_mk {o : Obj} (l : K.lookup C = some o) (e : ∃ nm q N bs bm sn sub ab col dd k0 k1 k2 k3 k5, o = excClassObj nm q C N bs bm true sn sub ab col dd k0 k1 k2 k3 k5 "ValueError.__new__" ∧ PySem.HandSPX.refsVE bm = true)
    (sa : PySem.W.findIn K (.ref C) "__setattr__" = some (some (.builtin "object.__setattr__"))) (eC : PySem.W.subIn K (.ref C) (.type "BaseException") = some true) (tC : PySem.W.typeIn K (.ref C) = some (.type "type")) (kC : PySem.W.keepIn K (.ref C) = true) : OexC K C := by
  obtain ⟨nm, q, N, bs, bm, sn, sub, ab, col, dd, k0, k1, k2, k3, k5, rfl, h⟩ := e
  exact ⟨⟨nm, q, N, bs, bm, sn, sub, ab, col, dd, k0, k1, k2, k3, k5, l, h⟩, sa, eC, tC, kC⟩
theorem exm_own {S : Addr} (h1 : PySem.W.subIn K (.ref S) (.type "BaseException") = some true) (h2 : PySem.W.isClsIn K S = true) (h3 : PySem.W.typeIn K (.ref S) = some (.type "type")) (h4 : PySem.W.subIn K (.ref S) (.ref S) = some true) : PySem.W.exmOne K (.ref S) (.ref S) = some true := by
  have a1 : (PySem.W.subIn K (.ref S) (.type "BaseException") == some true) = true := beq_iff_eq.mpr h1
  have a2 : ((PySem.W.clsIn K S).isSome && PySem.W.typeIn K (.ref S) == some (.type "type")) = true := Bool.and_eq_true_iff.mpr ⟨h2, by rw [h3]; rfl⟩
  change ite _ (ite _ _ _) _ = _
  exact (if_pos a1).trans ((if_pos a2).trans h4)
/-- the law's call, by a promise that leans on the guards -/
theorem law_go {k : Nat} {fa a : Addr} {fd : FuncData} {x : Str} {sp : Sp} {s₁ : Shared} {vs : List Value} {ns : List Int} (inK : K.In s₁.heap) (hg : s₁.heap.Ns mainGlobals mg) (hb : s₁.heap.Ns builtinsNs mb) (hbb : ∀ x : Str, x ≠ "__name__" → mb x = bootBuiltins x)
    (lim : s₁.heap.NoLimit) (gens : s₁.gens = #[]) (obj : s₁.heap.get? a = some { cls := .type "list", data := .seq vs.toArray }) (isI : IntsAre vs ns) (hl : ns.length ≤ sizeLine) (room : Room k callerA)
    (F : ∀ base : Heap, K.In base → base.Ns mainGlobals mg → FnG P w K mg base k fa fd [x] sp) (bind : ∀ (s : Shared) (u : Value), BindsTo s fd ⟨[u], []⟩ [(x, u)]) (hsp : ∀ H : Hp, SqL K H a (ns.map V.int) → sp [.ref a] H (fun v _ => v = .bl true) E0) :
    codeAny (model P w) callerA (.call (.ref fa) ⟨[.ref a], []⟩) (fun r s' => r = .ok (.ret (.bool true)) ∧ OldK s₁.heap s'.heap ∧ s'.os = s₁.os ∧ AllBare s'.gens) s₁ := by
  have vals := vals_ints isI
  have size := isI.length
  have part : ∀ H : Hp, (∀ b, H b = none ∨ ∃ o xs, H b = some (.frz o (.lst xs))) → SqL K H a (ns.map V.int) → HOk P w H s₁.heap → (∀ b, H b ≠ none → b = a ∧ K.lookup a = none) →
      codeAny (model P w) callerA (.call (.ref fa) ⟨[.ref a], []⟩) (fun r s' => r = .ok (.ret (.bool true)) ∧ OldK s₁.heap s'.heap ∧ s'.os = s₁.os ∧ AllBare s'.gens) s₁ := by
    intro H only seq ok at_
    have hid : ∀ {b : Addr} {o : Obj}, s₁.heap.get? b = some o → H b = none → (hidT s₁.heap H).get? b = some o := fun e n => hidT_get e n
    have dicts : ∀ {b : Addr} {m : Str → Option Value}, s₁.heap.Ns b m → (hidT s₁.heap H).Ns b m := by
      rintro b m ⟨o, es, ep, e, d, r⟩
      refine ⟨o, es, ep, hid e ?_, d, r⟩
      refine Classical.byContradiction fun n => ?_
      have eb := (at_ b n).1
      rw [eb, obj] at e
      have e' := Option.some.inj e
      rw [← e'] at d
      exact Data.noConfusion d
    have kb : K.In (hidT s₁.heap H) := fun b o e => hid (inK b o e) (Classical.byContradiction fun n => by
      obtain ⟨eb, z⟩ := at_ b n
      rw [eb, z] at e
      cases e)
    have mo : Mod K mg (hidT s₁.heap H) := ⟨kb, dicts hg, ⟨mb, dicts hb, hbb⟩, by
      obtain ⟨mc, l1, l2⟩ := lim
      exact ⟨mc, dicts l1, l2⟩⟩
    have ev : Env0 P w K mg (hidT s₁.heap H) callerA [] s₁ H := ⟨rfl, mo, fun b o z => of_hidT z, Nat.le_of_eq (hidT_size _ _), trivial, fun b z => absurd (show b ∈ ([] : List Addr) from z) (by simp), ok, .of_eq gens⟩
    refine codeAny_mono ((F _ kb (dicts hg)).go callerA [] s₁ H ⟨[.ref a], []⟩ [.ref a] [.ref a] (fun v _ => v = .bl true) E0 rfl room ev (bind s₁ (.ref a)) (.cons rfl .nil) (hsp H seq)) ?_
    rintro (e | fl) s' z
    · exact z.elim
    · cases fl with
      | next => exact z.elim
      | brk => exact z.elim
      | cont => exact z.elim
      | ret u =>
        obtain ⟨v, H', os, bare, un, ok', r, rfl⟩ := z
        obtain rfl : u = Value.bool true := r
        refine ⟨rfl, OldK.of_keep fun b o e => ?_, os, bare⟩
        rcases only b with n | ⟨ob, xs, n⟩
        · exact un.keep b o e n (fun y => absurd (show b ∈ ([] : List Addr) from y) (by simp)) (by simp)
        · obtain ⟨f1, _⟩ := ok b _ n
          obtain ⟨f2, _⟩ := ok' b _ (un.frzs b ob _ n)
          rw [e] at f1
          rw [Option.some.inj f1]
          exact f2
  cases look : K.lookup a with
  | some o =>
    have e := inK a o look
    rw [obj] at e
    cases e
    refine part (fun _ => none) (fun _ => .inl rfl) (.inr ⟨_, vs.toArray, _, look, rfl, rfl, rfl, ?_, by simpa using vals⟩) (fun b u z => by cases (show (none : Option HO) = some u from z)) fun b z => absurd rfl z
    rw [List.size_toArray, size]
    exact hl
  | none =>
    have self : ∀ {α : Type} {p q : α}, (if a = a then p else q) = p := fun {α p q} => if_pos rfl
    refine part (fun b => if b = a then some (.frz { cls := .type "list", data := .seq vs.toArray } (.lst (ns.map V.int))) else none) (fun b => ?_) (.inl (.inr ⟨_, self⟩)) (fun b u z => ?_) fun b z => ⟨Classical.byContradiction fun n => z (if_neg n), look⟩
    · rcases Classical.em (b = a) with e | n
      · exact .inr ⟨_, _, if_pos e⟩
      · exact .inl (if_neg n)
    · rcases Classical.em (b = a) with e | n
      · subst e
        have z' := self.symm.trans z
        cases z'
        exact ⟨obj, by rw [List.length_map]; exact hl, vs, _, vals, obj⟩
      · cases (if_neg n).symm.trans z
end
theorem walkG {l : PySem.W.OpenLaw} {n k : Nat} {q : Program} {loose : List Str} {XP : (Str → Option Value) → Heap → Prop} {YP : World → Heap → Prop} {d : DefRec} {K : Params → PySem.W.Frag} {sp : PySem.W.Frag → Sp} {x : Str} (most : l.most = some n) (small : n ≤ sizeLine) (plain : d.params.defaults = []) (room : Room k callerA)
    (inY : ∀ (w : World) (h : Heap), YP w h → (K w.params).In h)
    (F : ∀ (w : World) (mg : Str → Option Value) (fa : Addr) (h : Heap), (K w.params).In h → h.Ns mainGlobals mg → mg d.name = some (.ref fa) → ∃ fd : FuncData, (∀ (s : Shared) (u : Value), BindsTo s fd ⟨[u], []⟩ [(x, u)]) ∧ ∀ base : Heap, (K w.params).In base → base.Ns mainGlobals mg → FnG l.prog w (K w.params) mg base k fa fd [x] (sp (K w.params)))
    (hsp : ∀ (K : PySem.W.Frag) (H : Hp) (a : Addr) (ns : List Int), ns.length ≤ n → SqL K H a (ns.map V.int) → sp K [.ref a] H (fun v _ => v = .bl true) E0) : PySem.W.WalkO q loose XP YP l.row.toRowW d [] (fun f vs => PySem.call f vs) := by
  refine Att.attach_call most plain ?_
  intro w s₀ s₁ mg mb fa o pm cd doc a vs ns G Y ho hd hcd hmg obj isI len gens
  obtain ⟨fd, bind, go⟩ := F w mg fa _ (inY w _ Y) G.T.g hmg
  exact law_go (inY w _ Y) G.T.g G.T.b G.T.builtins G.T.nolimit gens obj isI (Nat.le_trans len small) room go bind fun H seq => hsp _ H a ns len seq

section
variable {P : Program} {w : World} {K : PySem.W.Frag} {mg : Str → Option Value} {h : Heap} {C fa fI f49 : Addr} {fdI fd49 : FuncData}
/-- what the top has written, all of it -/
structure Top (K : PySem.W.Frag) (mg : Str → Option Value) (C fI : Addr) (fdI : FuncData) : Prop where
  bi : Bi mg
  oex : OexC K C
  gm : mg "NotUsable" = some (.ref C)
  nw : PySem.W.findIn K (.ref C) "word" = some none
  na : PySem.W.findIn K (.ref C) "at" = some none
  iC : PySem.W.findIn K (.ref C) "__init__" = some (some (.ref fI))
  tI : PySem.W.typeIn K (.ref fI) = some (.type "function")
  fi : Fun K "__init__" "NotUsable.__init__" sInit fI fdI
  xf : XfC K C
  te : PySem.W.exmOne K (.ref C) (.ref C) = some true
  h5 : Has K mg "a_want" (top 5) ["good", "word"]
  h6 : Has K mg "integer_fits" (top 6) ["thing"]
  h7 : Has K mg "number_fits" (top 7) ["thing"]
  h8 : Has K mg "many_fits" (top 8) ["thing"]
  h9 : Has K mg "house_fits" (top 9) ["many", "thing"]
  h10 : Has K mg "lot_fits" (top 10) ["many", "thing"]
  h11 : Has K mg "is_lots" (top 11) ["many", "thing"]
  h12 : Has K mg "fears_fit" (top 12) ["many", "thing"]
  h13 : Has K mg "lot_within" (top 13) ["one", "other"]
  h14 : Has K mg "others_in" (top 14) ["many", "lot"]
  h15 : Has K mg "lots_in" (top 15) ["many"]
  h16 : Has K mg "feared_in" (top 16) ["fears", "lot"]
  h18 : Has K mg "partings_in" (top 18) ["many", "fears"]
  h19 : Has K mg "atoms_in" (top 19) ["many", "fears"]
  h20 : Has K mg "is_parting" (top 20) ["many", "fears", "lot"]
  h21 : Has K mg "partings_of" (top 21) ["many", "fears"]
  h22 : Has K mg "parting_of" (top 22) ["many", "fears", "one", "other"]
  h23 : Has K mg "atoms_of" (top 23) ["many", "fears"]
  h24 : Has K mg "atom_at" (top 24) ["many", "fears", "house"]
  h26 : Has K mg "few_fears" (top 26) ["many", "few"]
  h28 : Has K mg "_law_draw" (top 28) ["_law_source", "_law_top"]
  h29 : Has K mg "_law_has" (top 29) ["_law_mark", "_law_house"]
  h30 : Has K mg "_law_lot_of" (top 30) ["_law_n", "_law_mark"]
  h31 : Has K mg "_law_full" (top 31) ["_law_n"]
  h32 : Has K mg "_law_ones" (top 32) ["_law_n", "_law_mark"]
  h33 : Has K mg "_law_greatest" (top 33) ["_law_marks"]
  h34 : Has K mg "_law_groups" (top 34) ["_law_source", "_law_n"]
  h35 : Has K mg "_law_drawn_marks" (top 35) ["_law_source", "_law_n"]
  h36 : Has K mg "_law_partings" (top 36) ["_law_n", "_law_tops"]
  h37 : Has K mg "_law_set_of" (top 37) ["_law_n", "_law_marks"]
  h38 : Has K mg "_law_atom_of" (top 38) ["_law_n", "_law_parted", "_law_house"]
  h39 : Has K mg "_law_two_are_all" (top 39) ["_law_n", "_law_tops"]
  h40 : Has K mg "_law_partings_hold" (top 40) ["_law_n", "_law_fears", "_law_tops", "_law_parted"]
  h41 : Has K mg "_law_atoms_hold" (top 41) ["_law_n", "_law_fears", "_law_parted", "_law_mates"]
  h42 : Has K mg "_law_pairs" (top 42) ["_law_source", "_law_n"]
  h43 : Has K mg "_law_parting_hold" (top 43) ["_law_n", "_law_fears", "_law_parted", "_law_mates", "_law_pairs_here"]
  h44 : Has K mg "_law_turned" (top 44) ["_law_n", "_law_lot"]
  h45 : Has K mg "_law_turned_hold" (top 45) ["_law_n", "_law_fears", "_law_parted", "_law_mates"]
  h46 : Has K mg "_law_few_hold" (top 46) ["_law_source", "_law_n"]
  h47 : Has K mg "_law_refused" (top 47) ["_law_number", "_law_n", "_law_fears", "_law_worth"]
  h48 : Has K mg "_law_ends_hold" (top 48) ["_law_n", "_law_fears"]
theorem parts_of (M : Mathm) (T : Top K mg C fI fdI) (base : Heap) : Parts P w K mg base C ∧ True := by
  have B := T.bi
  have bI : Binds K fdI ["self", "word", "at"] [] := T.fi.binds fun _ _ _ _ _ _ us hl => match us, hl with | [_, _, _], _ => rfl
  have U : NU2 P w K mg base C := { oex := T.oex, gm := T.gm, nw := T.nw, na := T.na, ini := ⟨fI, fdI, T.iC, T.tI, ok_init T.oex T.nw T.na T.fi, bI⟩, xf := T.xf, te := T.te }
  have want := ok_want U.toNU T.h5
  have int_ := ok_int (P := P) (w := w) (base := base) B T.h6
  have num := ok_num B T.h7 int_
  have many := ok_many B T.h8 int_
  have house := ok_house B T.h9 num
  have lot := ok_lot B T.h10 house
  have lots := ok_is_lots B T.h11 lot
  have within_ := ok_within (P := P) (w := w) (base := base) B T.h13
  have fears := ok_fears_fit B T.h12 lots within_
  have others_ := ok_others (P := P) (w := w) (base := base) B T.h14
  have lotsIn := ok_lots_in (P := P) (w := w) (base := base) B T.h15
  have feared_ := ok_feared B T.h16 within_
  have partsIn := ok_parts_in B T.h18 lotsIn feared_ others_
  have atomsIn := ok_atoms_in B T.h19 partsIn
  have lib : Lib P w K mg base C := ⟨B, want, num, many, house, lot, fears, others_, lotsIn, feared_, partsIn, atomsIn⟩
  have draw := ok_draw (P := P) (w := w) (base := base) B T.h28
  have has := ok_has (P := P) (w := w) (base := base) B T.h29
  have lotOf_ := ok_lotOf B T.h30 has
  have full := ok_full (P := P) (w := w) (base := base) B T.h31
  have ones := ok_ones B T.h32 has
  have aid : Aid P w K mg base C := ⟨lib, ok_isP lib T.h20, ok_partsOf lib T.h21, ok_atomsOf lib T.h23, ok_atomAt lib T.h24, ok_partOf lib T.h22, ok_few lib T.h26, draw, has, lotOf_, full, ones, ok_greatest B T.h33, ok_partings B T.h36 full, ok_setOf B T.h37 lotOf_, ok_atomOf B T.h38 has, ok_two B T.h39 full, ok_turned B T.h44⟩
  exact ⟨⟨aid, ok_drawn B T.h35 draw (ok_groups B T.h34 draw) full ones, ok_pairs B T.h42 draw, ok_PH aid T.h40, ok_AH aid T.h41, ok_RH aid T.h43, ok_TH aid T.h45, ok_FH aid T.h46, ok_EH aid (ok_RF aid U T.h47) T.h48⟩, trivial⟩
theorem finish (M : Mathm) (T : Top K mg C fI fdI) {oc kV doc pm cdv ct : Value} {od an : Option Addr} {osl : Array (Option Value)} (X : K.In h) (G : h.Ns mainGlobals mg) (hfa : mg "law" = some (.ref fa)) (a : PySem.W.nsIn K mainGlobals "law" = some (some (.ref f49)))
    (l : K.lookup f49 = some ⟨oc, od, .func (PySem.W.fnOf "law" "law" (defArgs sLaw) (defBody sLaw) (defScope sLaw) .none kV doc pm an cdv ct), osl⟩) (c : PySem.W.codeIn K cdv "law" = true) (k : PySem.W.keepIn K (.ref f49) = true) :
    ∃ fd : FuncData, (∀ (s : Shared) (u : Value), BindsTo s fd ⟨[u], []⟩ [("_law_script", u)]) ∧ ∀ base : Heap, K.In base → base.Ns mainGlobals mg → FnG P w K mg base 11 fa fd ["_law_script"] (spLaw K) := by
  have e := hfa.symm.trans (PySem.W.mg_of X G a)
  cases e
  exact ⟨PySem.W.fnOf "law" "law" (defArgs sLaw) (defBody sLaw) (defScope sLaw) .none kV doc pm an cdv ct, fun s v => .of_eq rfl, fun base _ _ => ok_law M (parts_of M T base).1 (fun_mk (st := sLaw) l c k)⟩
end
end Kp

set_option Elab.async false
set_option linter.all false
set_option maxRecDepth 100000
set_option maxHeartbeats 8000000
namespace Kp
open PySem PySem.Spec PyProof.Rows L2 Pz
def rvN (n m : Nat) : Nat := ((List.range n).map fun h => hasN m (n - 1 - h) * 2 ^ h).sum
theorem f_all : ∀ n < 7, allLots n = (List.range (2 ^ n)).map (lotOf n) := by decide +kernel
theorem f_fit : ∀ n < 7, ∀ m < 2 ^ n, lotFits n (lotOf n m) = true := by decide +kernel
theorem f_oth : ∀ n < 7, ∀ m < 2 ^ n, others n (lotOf n m) = lotOf n (fullN n - m) := by decide +kernel
theorem f_within : ∀ n < 7, ∀ a < 2 ^ n, ∀ b < 2 ^ n, within (lotOf n a) (lotOf n b) = ((a ||| b) == b) := by decide +kernel
theorem f_le : ∀ n < 7, ∀ a < 2 ^ n, ∀ b < 2 ^ n, leL (lotOf n b) (lotOf n a) = !ltL (lotOf n a) (lotOf n b) := by decide +kernel
theorem f_and : ∀ a < 64, ∀ b < 64, ((a ||| b) == b) = ((b &&& a) == a) := by decide +kernel
theorem f_two : ∀ n < 7, ∀ a < 2 ^ n, ∀ b < 2 ^ n, ((a ||| b) == fullN n) = (((fullN n - a) ||| b) == b) := by decide +kernel
theorem f_orfull : ∀ n < 7, ∀ a < 2 ^ n, a ||| fullN n = fullN n := by decide +kernel
theorem f_rvlot : ∀ n < 7, ∀ m < 2 ^ n, lotOf n (rvN n m) = revL n (lotOf n m) := by decide +kernel
theorem f_rvlt : ∀ n < 7, ∀ m < 2 ^ n, rvN n m < 2 ^ n := by decide +kernel
theorem f_rvrv : ∀ n < 7, ∀ m < 2 ^ n, rvN n (rvN n m) = m := by decide +kernel
theorem f_rvor : ∀ n < 7, ∀ a < 2 ^ n, ∀ b < 2 ^ n, ((rvN n a ||| rvN n b) == rvN n b) = ((a ||| b) == b) := by decide +kernel
theorem f_rvfull : ∀ n < 7, ∀ m < 2 ^ n, fullN n - rvN n m = rvN n (fullN n - m) := by decide +kernel
theorem f_rvhas : ∀ n < 7, ∀ m < 2 ^ n, ∀ h < n, hasN (rvN n m) h = hasN m (n - 1 - h) := by decide +kernel
theorem f_rvperm : ∀ n < 7, ((List.range (2 ^ n)).isPerm ((List.range (2 ^ n)).map (rvN n))) = true := by decide +kernel
theorem f_rev : ∀ n < 7, ((List.range n).map fun h => n - 1 - h).reverse = List.range n := by decide +kernel
end Kp

set_option Elab.async false
set_option linter.all false
set_option maxRecDepth 100000
set_option maxHeartbeats 8000000
namespace Kp
open PySem PySem.Spec PyProof.Rows L2 Pz
theorem filter_congr2 {α : Type} {p q : α → Bool} : ∀ {l : List α}, (∀ x ∈ l, p x = q x) → l.filter p = l.filter q
  | [], _ => rfl
  | x :: l, h => by
    rw [List.filter_cons, List.filter_cons, h x List.mem_cons_self, filter_congr2 fun y hy => h y (List.mem_cons_of_mem _ hy)]
/-- marks of which none lies in another -/
structure Anti (n : Nat) (tops : List Nat) : Prop where
  ne : tops ≠ []
  len : tops.length ≤ 30
  lt : ∀ t ∈ tops, t < 2 ^ n
  nd : tops.Nodup
  an : ∀ a ∈ tops, ∀ b ∈ tops, a ≠ b → ((a ||| b) == b) = false
theorem tops_inv (marks : List Nat) : ∀ (l acc : List Nat), acc.Nodup → (∀ x ∈ acc, x ∈ marks ∧ aboveM marks x = []) → (∀ x ∈ l, x ∈ marks) →
    (l.foldl (topStep marks) acc).Nodup ∧ (∀ x ∈ l.foldl (topStep marks) acc, x ∈ marks ∧ aboveM marks x = []) ∧ ∀ x, (x ∈ acc ∨ (x ∈ l ∧ aboveM marks x = [])) → x ∈ l.foldl (topStep marks) acc
  | [], acc, h1, h2, _ => ⟨h1, h2, fun x h => h.elim id fun z => by cases z.1⟩
  | m :: l, acc, h1, h2, h3 => by
    rw [List.foldl_cons]
    have hm := h3 m List.mem_cons_self
    have hl : ∀ x ∈ l, x ∈ marks := fun x hx => h3 x (List.mem_cons_of_mem _ hx)
    have st : topStep marks acc m = if ((aboveM marks m).length == 0 && !decide (m ∈ acc)) = true then acc ++ [m] else acc := rfl
    by_cases c : ((aboveM marks m).length == 0 && !decide (m ∈ acc)) = true
    · rw [if_pos c] at st
      rw [st]
      simp only [Bool.and_eq_true, beq_iff_eq, Bool.not_eq_true', decide_eq_false_iff_not] at c
      have ea : aboveM marks m = [] := List.eq_nil_of_length_eq_zero c.1
      obtain ⟨i1, i2, i3⟩ := tops_inv marks l (acc ++ [m]) (List.nodup_append.mpr ⟨h1, by simp, fun a ha b hb => by
        rw [List.mem_singleton.mp hb]
        intro e
        exact c.2 (e ▸ ha)⟩) (fun x hx => by
        rcases List.mem_append.mp hx with hx | hx
        · exact h2 x hx
        · rw [List.mem_singleton.mp hx]; exact ⟨hm, ea⟩) hl
      refine ⟨i1, i2, fun x hx => i3 x ?_⟩
      rcases hx with hx | ⟨hx, e⟩
      · exact .inl (List.mem_append_left _ hx)
      · rcases List.mem_cons.mp hx with rfl | hx
        · exact .inl (List.mem_append_right _ (List.mem_singleton.mpr rfl))
        · exact .inr ⟨hx, e⟩
    · rw [if_neg c] at st
      rw [st]
      obtain ⟨i1, i2, i3⟩ := tops_inv marks l acc h1 h2 hl
      refine ⟨i1, i2, fun x hx => ?_⟩
      rcases hx with hx | ⟨hx, e⟩
      · exact i3 x (.inl hx)
      · rcases List.mem_cons.mp hx with rfl | hx
        · refine i3 x (.inl (Classical.byContradiction fun n => c ?_))
          rw [e, decide_eq_false n]
          rfl
        · exact i3 x (.inr ⟨hx, e⟩)
theorem exists_max : ∀ l : List Nat, l ≠ [] → ∃ m ∈ l, ∀ x ∈ l, x ≤ m
  | [], h => absurd rfl h
  | [a], _ => ⟨a, List.mem_singleton.mpr rfl, fun x hx => by rw [List.mem_singleton.mp hx]; exact Nat.le_refl _⟩
  | a :: b :: l, _ => by
    obtain ⟨m, hm, h⟩ := exists_max (b :: l) (by simp)
    by_cases c : a ≤ m
    · refine ⟨m, List.mem_cons_of_mem _ hm, fun x hx => ?_⟩
      rcases List.mem_cons.mp hx with rfl | hx
      · exact c
      · exact h x hx
    · refine ⟨a, List.mem_cons_self, fun x hx => ?_⟩
      rcases List.mem_cons.mp hx with rfl | hx
      · exact Nat.le_refl _
      · have := h x hx; omega
theorem pow64 {n a : Nat} (hn : n ≤ 6) (h : a < 2 ^ n) : a < 64 := Nat.lt_of_lt_of_le h (p26 hn)
theorem anti_tops {n : Nat} {marks : List Nat} (hn : n ≤ 6) (h1 : marks ≠ []) (h2 : marks.length ≤ 30) (h3 : ∀ m ∈ marks, m < 2 ^ n) : Anti n (topsM marks) := by
  obtain ⟨i1, i2, i3⟩ := tops_inv marks marks [] List.nodup_nil (fun x hx => by cases hx) (fun _ h => h)
  have mem : ∀ x, x ∈ topsM marks → x ∈ marks ∧ aboveM marks x = [] := i2
  refine ⟨?_, tops_len h2, fun t ht => h3 t (mem t ht).1, i1, fun a ha b hb hab => ?_⟩
  · obtain ⟨m, hm, hmax⟩ := exists_max marks h1
    have e : aboveM marks m = [] := by
      refine List.filter_eq_nil_iff.mpr fun o ho z => ?_
      simp only [Bool.and_eq_true, beq_iff_eq, Bool.not_eq_true', beq_eq_false_iff_ne] at z
      have le : m ≤ o := by rw [← z.1]; exact Nat.and_le_left
      exact z.2 (Nat.le_antisymm (hmax o ho) le)
    have := i3 m (.inr ⟨hm, e⟩)
    intro z
    have z' : marks.foldl (topStep marks) [] = [] := z
    rw [z'] at this
    cases this
  · have e := (mem a ha).2
    rw [f_and a (pow64 hn (h3 a (mem a ha).1)) b (pow64 hn (h3 b (mem b hb).1))]
    refine Bool.eq_false_iff.mpr fun z => ?_
    have := List.filter_eq_nil_iff.mp e b (mem b hb).1
    refine this ?_
    rw [z, Bool.true_and]
    simp only [Bool.not_eq_true', beq_eq_false_iff_ne]
    exact Ne.symm hab
section
variable {n : Nat} {tops : List Nat}
theorem lotOf_inj (hn : n ≤ 6) {a b : Nat} (ha : a < 2 ^ n) (hb : b < 2 ^ n) (h : lotOf n a = lotOf n b) : a = b := by
  have s : ∀ l : List Nat, within l l = true := fun l => List.all_eq_true.mpr fun x hx => decide_eq_true hx
  have h1 := f_within n (by omega) a ha b hb
  have h2 := f_within n (by omega) b hb a ha
  rw [h, s] at h1 h2
  have e1 : a ||| b = b := beq_iff_eq.mp h1.symm
  have e2 : b ||| a = a := beq_iff_eq.mp h2.symm
  rw [← e1, Nat.or_comm, e2]
theorem set_mem {marks : List Nat} {l : List Nat} : l ∈ setM n marks ↔ ∃ m ∈ marks, l = lotOf n m := ⟨setM_mem, fun ⟨m, hm, e⟩ => (srtL_perm _).mem_iff.mpr (List.mem_map.mpr ⟨m, hm, e.symm⟩)⟩
theorem nodup_map {α β : Type} {f : α → β} : ∀ {l : List α}, l.Nodup → (∀ a ∈ l, ∀ b ∈ l, f a = f b → a = b) → (l.map f).Nodup
  | [], _, _ => List.nodup_nil
  | x :: l, h, hi => by
    obtain ⟨h1, h2⟩ := List.nodup_cons.mp h
    rw [List.map_cons]
    refine List.nodup_cons.mpr ⟨fun z => ?_, nodup_map h2 fun a ha b hb => hi a (List.mem_cons_of_mem _ ha) b (List.mem_cons_of_mem _ hb)⟩
    obtain ⟨y, hy, e⟩ := List.mem_map.mp z
    have := hi y (List.mem_cons_of_mem _ hy) x List.mem_cons_self e
    exact h1 (this ▸ hy)
theorem srtd_get {l : List (List Nat)} (h : SrtdL l) (nd : l.Nodup) {i : Nat} (hi : i + 1 < l.length) : ltL l[i] l[i + 1] = true := by
  have h1 : ltL l[i + 1] l[i] = false := List.pairwise_iff_getElem.mp h i (i + 1) (by omega) hi (by omega)
  cases e : ltL l[i] l[i + 1] with
  | true => rfl
  | false => exact absurd (ltL_total e h1) (List.pairwise_iff_getElem.mp nd i (i + 1) (by omega) hi (by omega))
theorem fit_set (h1 : 1 ≤ n) (hn : n ≤ 6) (A : Anti n tops) : fearsFit n (setM n tops) = true := by
  have lots : ∀ l ∈ setM n tops, ∃ m, m < 2 ^ n ∧ m ∈ tops ∧ l = lotOf n m := fun l hl => by
    obtain ⟨m, hm, e⟩ := set_mem.mp hl
    exact ⟨m, A.lt m hm, hm, e⟩
  have len : (setM n tops).length ≠ 0 := by rw [setM_len]; exact fun z => A.ne (List.eq_nil_of_length_eq_zero z)
  have fit : (setM n tops).all (lotFits n) = true := List.all_eq_true.mpr fun l hl => by
    obtain ⟨m, hm, _, rfl⟩ := lots l hl
    exact f_fit n (by omega) m hm
  have nd : (setM n tops).Nodup := (srtL_perm _).nodup_iff.mpr (nodup_map A.nd fun a ha b hb e => lotOf_inj hn (A.lt a ha) (A.lt b hb) e)
  have asc : ascB (setM n tops) = true := List.all_eq_true.mpr fun i hi => by
    have hi : i < (setM n tops).length - 1 := List.mem_range.mp hi
    have s := srtd_get (srtL_srtd _) nd (i := i) (show i + 1 < (setM n tops).length by omega)
    have g1 : (setM n tops).getD (1 + i) [] = (setM n tops)[i + 1]'(by omega) := by
      rw [List.getD_eq_getElem?_getD, Nat.add_comm, List.getElem?_eq_getElem (by omega)]; rfl
    have g2 : (setM n tops).getD i [] = (setM n tops)[i]'(by omega) := by
      rw [List.getD_eq_getElem?_getD, List.getElem?_eq_getElem (by omega)]; rfl
    obtain ⟨a, ha, _, ea⟩ := lots _ (List.getElem_mem (show i < (setM n tops).length by omega))
    obtain ⟨b, hb, _, eb⟩ := lots _ (List.getElem_mem (show i + 1 < (setM n tops).length by omega))
    have s' : ltL (lotOf n a) (lotOf n b) = true := by rw [← ea, ← eb]; exact s
    rw [g1, g2, ea, eb, f_le n (by omega) a ha b hb, s']
    rfl
  have apart : apartB (setM n tops) = true := by
    unfold apartB
    rw [Bool.not_eq_true']
    refine Bool.eq_false_iff.mpr fun z => ?_
    obtain ⟨v, hv, e⟩ := List.any_eq_true.mp z
    obtain ⟨x, hx, hv⟩ := List.mem_flatMap.mp hv
    obtain ⟨y, hy, rfl⟩ := List.mem_map.mp hv
    simp only [id, Bool.and_eq_true, Bool.not_eq_true', decide_eq_false_iff_not] at e
    obtain ⟨a, ha, hat, rfl⟩ := lots x hx
    obtain ⟨b, hb, hbt, rfl⟩ := lots y hy
    have hab : a ≠ b := fun q => e.1 (by rw [q])
    have := A.an a hat b hbt hab
    rw [← f_within n (by omega) a ha b hb, e.2] at this
    cases this
  unfold fearsFit
  rw [fit, decide_eq_false len, asc, apart]
  rfl
theorem feared_cnt (hn : n ≤ 6) (A : Anti n tops) {m : Nat} (hm : m < 2 ^ n) : feared (setM n tops) (lotOf n m) = decide (0 < cntM tops m) := by
  rw [Bool.eq_iff_iff, decide_eq_true_eq]
  unfold feared cntM
  rw [List.any_eq_true, List.length_filter_pos_iff]
  constructor
  · rintro ⟨l, hl, hw⟩
    obtain ⟨t, ht, rfl⟩ := set_mem.mp hl
    rw [f_within n (by omega) m hm t (A.lt t ht)] at hw
    exact ⟨t, ht, hw⟩
  · rintro ⟨t, ht, hw⟩
    refine ⟨lotOf n t, set_mem.mpr ⟨t, ht, rfl⟩, ?_⟩
    rw [f_within n (by omega) m hm t (A.lt t ht)]
    exact hw
theorem full_lt (n m : Nat) : fullN n - m < 2 ^ n := by have := full_succ n; omega
theorem parts_is (hn : n ≤ 6) (A : Anti n tops) {m : Nat} (hm : m < 2 ^ n) : partsB n (setM n tops) (lotOf n m) = (decide (0 < cntM tops m) && decide (0 < cntM tops (fullN n - m))) := by
  unfold partsB
  rw [f_oth n (by omega) m hm, feared_cnt hn A hm, feared_cnt hn A (full_lt n m)]
theorem mem_parts {m : Nat} : m ∈ partsM n tops ↔ m < 2 ^ n ∧ (decide (0 < cntM tops m) && decide (0 < cntM tops (fullN n - m))) = true := by
  unfold partsM
  rw [List.mem_filter, List.mem_range]
theorem parts_mem (hn : n ≤ 6) (A : Anti n tops) {m : Nat} (hm : m < 2 ^ n) : partsB n (setM n tops) (lotOf n m) = decide (m ∈ partsM n tops) := by
  rw [parts_is hn A hm, Bool.eq_iff_iff, decide_eq_true_eq, mem_parts]
  exact ⟨fun h => ⟨hm, h⟩, fun h => h.2⟩
theorem parts_all (hn : n ≤ 6) (A : Anti n tops) : partsL n (setM n tops) = setM n (partsM n tops) := by
  refine srt_unique ((srtL_srtd _).filter _) (srtL_srtd _) ?_
  refine ((srtL_perm _).filter _).trans (List.Perm.trans ?_ (srtL_perm _).symm)
  rw [f_all n (by omega), List.filter_map]
  refine List.Perm.of_eq (congrArg _ ?_)
  exact filter_congr2 fun m hm => parts_is hn A (List.mem_range.mp hm)
theorem cnt_pos {m : Nat} : (0 < cntM tops m) ↔ ∃ t ∈ tops, ((m ||| t) == t) = true := by
  unfold cntM
  rw [List.length_filter_pos_iff]
theorem parts_two (hn : n ≤ 6) (A : Anti n tops) : decide (0 < (partsM n tops).length) = twoB n tops := by
  unfold twoB
  refine decide_eq_decide.mpr ?_
  rw [List.length_filter_pos_iff]
  constructor
  · intro h
    obtain ⟨m, hm⟩ := List.exists_mem_of_length_pos h
    obtain ⟨hlt, hc⟩ := mem_parts.mp hm
    simp only [Bool.and_eq_true, decide_eq_true_eq] at hc
    obtain ⟨t, ht, e1⟩ := cnt_pos.mp hc.1
    obtain ⟨u, hu, e2⟩ := cnt_pos.mp hc.2
    refine ⟨t, ht, decide_eq_true ?_⟩
    rw [List.length_filter_pos_iff]
    refine ⟨u, hu, ?_⟩
    rw [← f_two n (by omega) m hlt u (A.lt u hu)] at e2
    have q1 := beq_iff_eq.mp e1
    have q2 := beq_iff_eq.mp e2
    rw [← q1, Nat.or_comm m t, Nat.or_assoc, q2, f_orfull n (by omega) t (A.lt t ht)]
    exact beq_self_eq_true _
  · rintro ⟨t, ht, h⟩
    have h := of_decide_eq_true h
    rw [List.length_filter_pos_iff] at h
    obtain ⟨u, hu, e⟩ := h
    refine List.length_pos_of_mem (a := t) (mem_parts.mpr ⟨A.lt t ht, ?_⟩)
    rw [Bool.and_eq_true, decide_eq_true_eq, decide_eq_true_eq]
    refine ⟨cnt_pos.mpr ⟨t, ht, by rw [Nat.or_self]; exact beq_self_eq_true _⟩, cnt_pos.mpr ⟨u, hu, ?_⟩⟩
    rw [← f_two n (by omega) t (A.lt t ht) u (A.lt u hu)]
    exact e
theorem okP (h1 : 1 ≤ n) (hn : n ≤ 6) (A : Anti n tops) : OkP n (setM n tops) tops (partsM n tops) where
  v := ⟨h1, hn, by rw [setM_len]; exact A.len, fun l hl => by have := (sml_set hn l hl).len; omega⟩
  fit := fit_set h1 hn A
  tl := by have := A.len; omega
  pl := by have := partsM_len hn tops; omega
  lot := fun m hm => f_fit n (by omega) m hm
  is := fun m hm => parts_mem hn A hm
  two := parts_two hn A
  all := parts_all hn A
end
end Kp

set_option Elab.async false
set_option linter.all false
set_option maxRecDepth 100000
set_option maxHeartbeats 8000000
namespace Kp
open PySem PySem.Spec PyProof.Rows L2 Pz
section
variable {n : Nat} {tops parted : List Nat}
theorem mate_iff {h m : Nat} : mateB parted h m = true ↔ ∀ k ∈ parted, hasN k h = hasN k m := by
  unfold mateB
  rw [beq_iff_eq, List.length_eq_zero_iff, List.filter_eq_nil_iff]
  constructor
  · intro z k hk
    have := z k hk
    simpa using this
  · intro z k hk
    rw [z k hk]
    simp
theorem mate_refl (h : Nat) : mateB parted h h = true := mate_iff.mpr fun _ _ => rfl
theorem mate_eq {a b : Nat} (h : mateB parted a b = true) : mateB parted a = mateB parted b := by
  funext m
  rw [Bool.eq_iff_iff, mate_iff, mate_iff]
  have q := mate_iff.mp h
  exact ⟨fun z k hk => (q k hk).symm.trans (z k hk), fun z k hk => (q k hk).trans (z k hk)⟩
theorem mates_eq {a b : Nat} (h : mateB parted a b = true) : mateOf n parted a = mateOf n parted b := by unfold mateOf; rw [mate_eq h]
theorem mem_mate {a b : Nat} : b ∈ mateOf n parted a ↔ b < n ∧ mateB parted a b = true := by unfold mateOf; rw [List.mem_filter, List.mem_range]
theorem has01 (m h : Nat) : hasN m h = 0 ∨ hasN m h = 1 := by
  unfold hasN
  omega
theorem mem_lotOf {m x : Nat} : x ∈ lotOf n m ↔ x < n ∧ hasN m x = 1 := by unfold lotOf; rw [List.mem_filter, List.mem_range, beq_iff_eq]
theorem any_set {p : List Nat → Bool} : (setM n parted).any p = parted.any fun m => p (lotOf n m) := by
  rw [Bool.eq_iff_iff, List.any_eq_true, List.any_eq_true]
  exact ⟨fun ⟨l, hl, e⟩ => by
    obtain ⟨m, hm, rfl⟩ := set_mem.mp hl
    exact ⟨m, hm, e⟩, fun ⟨m, hm, e⟩ => ⟨_, set_mem.mpr ⟨m, hm, rfl⟩, e⟩⟩
theorem kin_eq {h : Nat} (hh : h < n) : kinOf n (setM n parted) h = (List.range' h (n - h)).filter (mateB parted h) := by
  unfold kinOf
  refine filter_congr2 fun x hx => ?_
  have hx' := List.mem_range'_1.mp hx
  have hxn : x < n := by omega
  rw [any_set, Bool.eq_iff_iff, mate_iff, Bool.not_eq_true', List.any_eq_false]
  constructor
  · intro z k hk
    have := z k hk
    simp only [Bool.not_eq_true', Bool.not_eq_false, beq_iff_eq, decide_eq_decide, mem_lotOf, hh, hxn, true_and, Bool.not_eq_true, Bool.not_eq_false'] at this
    rcases has01 k h with a | a <;> rcases has01 k x with b | b <;> simp_all
  · intro z k hk
    have e := z k hk
    simp only [mem_lotOf, hh, hxn, true_and, e]
    simp
theorem range_split {h : Nat} (hh : h ≤ n) : List.range n = List.range h ++ List.range' h (n - h) := by
  have e := List.range'_append (s := 0) (m := h) (n := n - h) (step := 1)
  rw [List.range_eq_range', List.range_eq_range']
  rw [Nat.one_mul, Nat.zero_add, show h + (n - h) = n by omega] at e
  exact e.symm
/-- the atoms so far -/
structure AtI (n : Nat) (parted : List Nat) (i : Nat) : Prop where
  eq : atomsN n (setM n parted) i = matesD n parted i
  has : ∀ j < i, mateOf n parted j ∈ matesD n parted i
  hd : ∀ a ∈ matesD n parted i, ∃ j < i, ∃ r, a = j :: r
  srt : SrtdL (matesD n parted i)
theorem atI : ∀ i ≤ n, AtI n parted i
  | 0, _ => ⟨rfl, fun j h => absurd h (Nat.not_lt_zero j), fun a h => (by cases h), List.Pairwise.nil⟩
  | i + 1, hi => by
    have hin : i < n := hi
    have I := atI i (by omega)
    have self : i ∈ mateOf n parted i := mem_mate.mpr ⟨hin, mate_refl i⟩
    by_cases c : mateOf n parted i ∈ matesD n parted i
    · have e1 : matesD n parted (i + 1) = matesD n parted i := by rw [matesD, if_pos c]
      have e2 : (atomsN n (setM n parted) i).any (fun a => decide (i ∈ a)) = true := List.any_eq_true.mpr ⟨mateOf n parted i, by rw [I.eq]; exact c, decide_eq_true self⟩
      refine ⟨by rw [atomsN, if_pos e2, e1, I.eq], fun j hj => ?_, fun a ha => ?_, by rw [e1]; exact I.srt⟩
      · rw [e1]
        by_cases ji : j = i
        · rw [ji]; exact c
        · exact I.has j (by omega)
      · rw [e1] at ha
        obtain ⟨j, hj, r, e⟩ := I.hd a ha
        exact ⟨j, by omega, r, e⟩
    · have e1 : matesD n parted (i + 1) = matesD n parted i ++ [mateOf n parted i] := by rw [matesD, if_neg c]
      have alone : ∀ j < i, mateB parted i j = false := fun j hj => Bool.eq_false_iff.mpr fun z => c (by
        rw [mates_eq z]
        exact I.has j hj)
      have e2 : ¬ (atomsN n (setM n parted) i).any (fun a => decide (i ∈ a)) = true := fun z => by
        obtain ⟨a, ha, hia⟩ := List.any_eq_true.mp z
        rw [I.eq] at ha
        obtain ⟨j, hj, rfl⟩ := matesD_mem ha
        have := (mem_mate.mp (of_decide_eq_true hia)).2
        have s := mate_iff.mp this
        have : mateB parted i j = true := mate_iff.mpr fun k hk => (s k hk).symm
        rw [alone j hj] at this
        cases this
      have mk : mateOf n parted i = (List.range' i (n - i)).filter (mateB parted i) := by
        unfold mateOf
        rw [range_split (Nat.le_of_lt hin), List.filter_append, List.filter_eq_nil_iff.mpr fun j hj => by rw [alone j (List.mem_range.mp hj)]; exact Bool.false_ne_true, List.nil_append]
      have hk : kinOf n (setM n parted) i = mateOf n parted i := by rw [kin_eq hin, mk]
      have hc : ∃ r, mateOf n parted i = i :: r := by
        rw [mk, show n - i = (n - i - 1) + 1 by omega, List.range'_succ, List.filter_cons, if_pos (mate_refl i)]
        exact ⟨_, rfl⟩
      refine ⟨by rw [atomsN, if_neg e2, e1, I.eq, hk], fun j hj => ?_, fun a ha => ?_, ?_⟩
      · rw [e1]
        by_cases ji : j = i
        · rw [ji]; exact List.mem_append_right _ (List.mem_singleton.mpr rfl)
        · exact List.mem_append_left _ (I.has j (by omega))
      · rw [e1] at ha
        rcases List.mem_append.mp ha with ha | ha
        · obtain ⟨j, hj, r, e⟩ := I.hd a ha
          exact ⟨j, by omega, r, e⟩
        · obtain ⟨r, e⟩ := hc
          rw [List.mem_singleton.mp ha]
          exact ⟨i, by omega, r, e⟩
      · rw [e1]
        refine List.pairwise_append.mpr ⟨I.srt, List.pairwise_singleton _ _, fun a ha b hb => ?_⟩
        obtain ⟨j, hj, r, e⟩ := I.hd a ha
        obtain ⟨r2, e2⟩ := hc
        rw [List.mem_singleton.mp hb, e, e2]
        show HT.lexLt ((i : Int) :: iL r2) ((j : Int) :: iL r) = false
        rw [HT.lexLt_cons, if_neg (by omega)]
        exact decide_eq_false (by omega)
theorem atoms_eq (hn : n ≤ 6) (A : Anti n tops) : atomsL n (setM n tops) = matesD n (partsM n tops) n := by
  unfold atomsL
  rw [parts_all hn A]
  exact (atI n (Nat.le_refl n)).eq
theorem okA (h1 : 1 ≤ n) (hn : n ≤ 6) (A : Anti n tops) : OkA n (setM n tops) (partsM n tops) where
  v := (okP h1 hn A).v
  fit := fit_set h1 hn A
  pl := (okP h1 hn A).pl
  at_ := fun h hh => by
    rw [atoms_eq hn A]
    have I := atI (n := n) (parted := partsM n tops) n (Nat.le_refl n)
    have self : h ∈ mateOf n (partsM n tops) h := mem_mate.mpr ⟨hh, mate_refl h⟩
    have m1 : mateOf n (partsM n tops) h ∈ (matesD n (partsM n tops) n).filter fun a => decide (h ∈ a) := List.mem_filter.mpr ⟨I.has h hh, decide_eq_true self⟩
    cases e : (matesD n (partsM n tops) n).filter fun a => decide (h ∈ a) with
    | nil => rw [e] at m1; cases m1
    | cons a r =>
      have ma : a ∈ (matesD n (partsM n tops) n).filter fun a => decide (h ∈ a) := by rw [e]; exact List.mem_cons_self
      obtain ⟨ma1, ma2⟩ := List.mem_filter.mp ma
      obtain ⟨j, hj, ej⟩ := matesD_mem ma1
      have := of_decide_eq_true ma2
      rw [ej] at this
      rw [List.getElem?_cons_zero, ej, mates_eq (mem_mate.mp this).2]
  srt := by
    rw [atoms_eq hn A]
    exact srt_unique (srtL_srtd _) (atI n (Nat.le_refl n)).srt (srtL_perm _)
  whole := fun m hm a ha => by
    obtain ⟨j, hj, rfl⟩ := matesD_mem ha
    have all : ∀ x ∈ mateOf n (partsM n tops) j, hasN m x = hasN m j := fun x hx => (mate_iff.mp (mem_mate.mp hx).2 m hm).symm
    rcases has01 m j with z | z
    · left
      rw [List.length_eq_zero_iff, List.filter_eq_nil_iff]
      intro x hx
      rw [all x hx, z]
      decide
    · right
      rw [List.filter_eq_self.mpr fun x hx => by rw [all x hx, z]; rfl]
theorem okR (h1 : 1 ≤ n) (hn : n ≤ 6) (A : Anti n tops) : OkR n (setM n tops) (partsM n tops) where
  v := (okP h1 hn A).v
  fit := fit_set h1 hn A
  pl := (okP h1 hn A).pl
  same := fun a ha b hb hab hm => by
    have q := mate_iff.mp (mem_mate.mp hm).2
    unfold sideD
    rw [parts_all hn A, List.find?_eq_none.mpr fun l hl => ?_]
    obtain ⟨k, hk, rfl⟩ := set_mem.mp hl
    unfold sideP
    have e := q k hk
    intro z
    simp only [Bool.and_eq_true, decide_eq_true_eq, Bool.not_eq_true', decide_eq_false_iff_not, mem_lotOf] at z
    exact z.2 ⟨hb, e ▸ z.1.2⟩
  apart := fun a ha b hb hab hm => by
    have nm : ¬ ∀ k ∈ partsM n tops, hasN k a = hasN k b := fun z => hm (mem_mate.mpr ⟨hb, mate_iff.mpr z⟩)
    have ex : ∃ k ∈ partsM n tops, hasN k a ≠ hasN k b := Classical.byContradiction fun z => nm fun k hk => Classical.byContradiction fun y => z ⟨k, hk, y⟩
    obtain ⟨k, hk, hne⟩ := ex
    have side : ∃ k ∈ partsM n tops, hasN k a = 1 ∧ hasN k b = 0 := by
      rcases has01 k a with ka | ka <;> rcases has01 k b with kb | kb
      · exact absurd (ka.trans kb.symm) hne
      · obtain ⟨klt, kc⟩ := mem_parts.mp hk
        have fl := full_lt n k
        have kk : fullN n - (fullN n - k) = k := by have := full_succ n; omega
        refine ⟨fullN n - k, mem_parts.mpr ⟨fl, by rw [kk, Bool.and_comm]; exact kc⟩, ?_, ?_⟩
        · have : a ∈ lotOf n (fullN n - k) := by
            rw [← f_oth n (by omega) k klt]
            unfold others
            rw [List.mem_filter, List.mem_range]
            refine ⟨ha, ?_⟩
            rw [Bool.not_eq_true', decide_eq_false_iff_not, mem_lotOf]
            intro z
            omega
          exact (mem_lotOf.mp this).2
        · have : b ∉ lotOf n (fullN n - k) := by
            rw [← f_oth n (by omega) k klt]
            unfold others
            rw [List.mem_filter]
            intro z
            have z2 := z.2
            rw [Bool.not_eq_true', decide_eq_false_iff_not, mem_lotOf] at z2
            exact z2 ⟨hb, kb⟩
          rcases has01 (fullN n - k) b with y | y
          · exact y
          · exact absurd (mem_lotOf.mpr ⟨hb, y⟩) this
      · exact ⟨k, hk, ka, kb⟩
      · exact absurd (ka.trans kb.symm) hne
    obtain ⟨k, hk, ka, kb⟩ := side
    unfold sideD
    rw [parts_all hn A]
    cases e : (setM n (partsM n tops)).find? (sideP a b) with
    | none =>
      have := List.find?_eq_none.mp e (lotOf n k) (set_mem.mpr ⟨k, hk, rfl⟩)
      refine absurd ?_ this
      unfold sideP
      rw [decide_eq_true (mem_lotOf.mpr ⟨ha, ka⟩), decide_eq_false (fun z => by have := (mem_lotOf.mp z).2; omega)]
      rfl
    | some l =>
      have p := List.find?_some e
      unfold sideP at p
      simp only [Bool.and_eq_true, decide_eq_true_eq, Bool.not_eq_true', decide_eq_false_iff_not] at p
      exact ⟨l, rfl, List.mem_of_find?_eq_some e, p.1, p.2⟩
theorem anti_rv (hn : n ≤ 6) (A : Anti n tops) : Anti n (tops.map (rvN n)) where
  ne := fun z => A.ne (List.map_eq_nil_iff.mp z)
  len := by rw [List.length_map]; exact A.len
  lt := fun t ht => by
    obtain ⟨m, hm, rfl⟩ := List.mem_map.mp ht
    exact f_rvlt n (by omega) m (A.lt m hm)
  nd := nodup_map A.nd fun a ha b hb e => by rw [← f_rvrv n (by omega) a (A.lt a ha), e, f_rvrv n (by omega) b (A.lt b hb)]
  an := fun a ha b hb hab => by
    obtain ⟨x, hx, rfl⟩ := List.mem_map.mp ha
    obtain ⟨y, hy, rfl⟩ := List.mem_map.mp hb
    rw [f_rvor n (by omega) x (A.lt x hx) y (A.lt y hy)]
    exact A.an x hx y hy fun z => hab (by rw [z])
theorem srt_perm {a b : List (List Nat)} (p : a.Perm b) : srtL a = srtL b := srt_unique (srtL_srtd _) (srtL_srtd _) ((srtL_perm a).trans (p.trans (srtL_perm b).symm))
theorem turn_set (hn : n ≤ 6) (A : Anti n tops) : turnF n (setM n tops) = setM n (tops.map (rvN n)) := by
  refine srt_perm (((srtL_perm _).map _).trans (List.Perm.of_eq ?_))
  rw [List.map_map, List.map_map]
  exact List.map_congr_left fun m hm => (f_rvlot n (by omega) m (A.lt m hm)).symm
theorem cnt_rv (hn : n ≤ 6) (A : Anti n tops) {m : Nat} (hm : m < 2 ^ n) : decide (0 < cntM (tops.map (rvN n)) (rvN n m)) = decide (0 < cntM tops m) := by
  refine decide_eq_decide.mpr ?_
  rw [cnt_pos, cnt_pos]
  constructor
  · rintro ⟨t, ht, e⟩
    obtain ⟨u, hu, rfl⟩ := List.mem_map.mp ht
    rw [f_rvor n (by omega) m hm u (A.lt u hu)] at e
    exact ⟨u, hu, e⟩
  · rintro ⟨u, hu, e⟩
    exact ⟨rvN n u, List.mem_map.mpr ⟨u, hu, rfl⟩, by rw [f_rvor n (by omega) m hm u (A.lt u hu)]; exact e⟩
theorem parts_rv (hn : n ≤ 6) (A : Anti n tops) : (partsM n (tops.map (rvN n))).Perm ((partsM n tops).map (rvN n)) := by
  have p := List.isPerm_iff.mp (f_rvperm n (by omega))
  refine (p.filter _).trans (List.Perm.of_eq ?_)
  rw [List.filter_map]
  refine congrArg _ ?_
  refine filter_congr2 fun m hm => ?_
  have hm := List.mem_range.mp hm
  show (decide (0 < cntM (tops.map (rvN n)) (rvN n m)) && decide (0 < cntM (tops.map (rvN n)) (fullN n - rvN n m))) = _
  rw [f_rvfull n (by omega) m hm, cnt_rv hn A hm, cnt_rv hn A (full_lt n m)]
theorem mate_rv (hn : n ≤ 6) (A : Anti n tops) {h x : Nat} (hh : h < n) (hx : x < n) : mateB (partsM n (tops.map (rvN n))) h x = mateB (partsM n tops) (n - 1 - h) (n - 1 - x) := by
  rw [Bool.eq_iff_iff, mate_iff, mate_iff]
  have p := parts_rv hn A
  constructor
  · intro z k hk
    have klt := (mem_parts.mp hk).1
    have := z (rvN n k) (p.mem_iff.mpr (List.mem_map.mpr ⟨k, hk, rfl⟩))
    rw [f_rvhas n (by omega) k klt h hh, f_rvhas n (by omega) k klt x hx] at this
    exact this
  · intro z k hk
    obtain ⟨m, hm, rfl⟩ := List.mem_map.mp (p.mem_iff.mp hk)
    have mlt := (mem_parts.mp hm).1
    rw [f_rvhas n (by omega) m mlt h hh, f_rvhas n (by omega) m mlt x hx]
    exact z m hm
theorem mateOf_rv (hn : n ≤ 6) (A : Anti n tops) {h : Nat} (hh : h < n) : mateOf n (partsM n (tops.map (rvN n))) h = revL n (mateOf n (partsM n tops) (n - 1 - h)) := by
  unfold mateOf revL
  conv => lhs; rw [← f_rev n (by omega)]
  rw [List.filter_reverse, List.filter_map]
  refine congrArg _ (congrArg _ ?_)
  refine filter_congr2 fun x hx => ?_
  have hx := List.mem_range.mp hx
  show mateB (partsM n (tops.map (rvN n))) h (n - 1 - x) = _
  rw [mate_rv hn A hh (by omega), show n - 1 - (n - 1 - x) = x by omega]
theorem okT (h1 : 1 ≤ n) (hn : n ≤ 6) (A : Anti n tops) : OkT n (setM n tops) (partsM n tops) where
  v := by rw [turn_set hn A]; exact (okP h1 hn (anti_rv hn A)).v
  fok := fun l hl => by
    obtain ⟨m, _, rfl⟩ := set_mem.mp hl
    exact ⟨(sml_lotOf hn).len, lotOf_low, asc_range⟩
  pl := (okP h1 hn A).pl
  fit := by rw [turn_set hn A]; exact fit_set h1 hn (anti_rv hn A)
  all := by
    rw [turn_set hn A, parts_all hn (anti_rv hn A)]
    refine srt_perm (((parts_rv hn A).map _).trans (List.Perm.of_eq ?_))
    rw [List.map_map]
    exact List.map_congr_left fun m hm => f_rvlot n (by omega) m (mem_parts.mp hm).1
  at_ := fun h hh => by
    rw [turn_set hn A, (okA h1 hn (anti_rv hn A)).at_ h hh, mateOf_rv hn A hh]
theorem okE (h1 : 1 ≤ n) (hn : n ≤ 6) (A : Anti n tops) : OkE n (setM n tops) := ⟨(okP h1 hn A).v, fit_set h1 hn A, _, (okA h1 hn A).at_ (n - 1) (by omega)⟩
end
theorem mathm : Mathm := fun n marks h1 hn m1 m2 m3 => by
  have A := anti_tops hn m1 m2 m3
  exact ⟨okP h1 hn A, okA h1 hn A, okR h1 hn A, okT h1 hn A, okE h1 hn A⟩
end Kp

set_option Elab.async false
set_option linter.all false
set_option maxRecDepth 100000
open PySem PySem.W PyProof.Rows
set_option maxRecDepth 100000 in
set_option maxHeartbeats 0 in
theorem PySem.Challenge.cw_closereckoned_k03_whole_partings_and_ato_holds : PySem.Challenge.rw_closereckoned_k03_whole_partings_and_ato.Holds := by
  w_on; o_law; k_head; (case hw => w_witness2)
  k_fill
  refine Kp.walkG (l := PySem.Challenge.rw_closereckoned_k03_whole_partings_and_ato) (n := 63) (k := 11) (x := "_law_script") (sp := Kp.spLaw) rfl (by decide) rfl ⟨rfl, by decide, by decide⟩ (fun w h Y => PySem.W.kIn_of Y) ?F (fun K H a ns hl hS => ⟨a, ns, rfl, by omega, hS, fun _ => rfl⟩)
  case F =>
    intro w mg fa h KX G hmg
    have bi : Kp.Bi mg := by
      refine ⟨PySem.W.mg_none_of KX G ?b0, PySem.W.mg_none_of KX G ?b1, PySem.W.mg_none_of KX G ?b2, PySem.W.mg_none_of KX G ?b3, PySem.W.mg_none_of KX G ?b4, PySem.W.mg_none_of KX G ?b5, PySem.W.mg_none_of KX G ?b6, PySem.W.mg_none_of KX G ?b7, PySem.W.mg_none_of KX G ?b8, PySem.W.mg_none_of KX G ?b9, PySem.W.mg_none_of KX G ?b10, PySem.W.mg_none_of KX G ?b11⟩
      (case b0 => k_is)
      (case b1 => k_is)
      (case b2 => k_is)
      (case b3 => k_is)
      (case b4 => k_is)
      (case b5 => k_is)
      (case b6 => k_is)
      (case b7 => k_is)
      (case b8 => k_is)
      (case b9 => k_is)
      (case b10 => k_is)
      (case b11 => k_is)
    refine' Kp.need (mg := mg) KX "a_want" (Kp.top 5) ["good", "word"] (Kp.has_mk KX G ?a ?l ?c ?k (fun _ _ _ _ _ _ us hl => match us, hl with | [_, _], _ => rfl)) fun h5 => ?_
    (case a => k_is); (case l => k_is); (case c => k_is); (case k => k_is)
    refine' Kp.need (mg := mg) KX "integer_fits" (Kp.top 6) ["thing"] (Kp.has_mk KX G ?a ?l ?c ?k (fun _ _ _ _ _ _ us hl => match us, hl with | [_], _ => rfl)) fun h6 => ?_
    (case a => k_is); (case l => k_is); (case c => k_is); (case k => k_is)
    refine' Kp.need (mg := mg) KX "number_fits" (Kp.top 7) ["thing"] (Kp.has_mk KX G ?a ?l ?c ?k (fun _ _ _ _ _ _ us hl => match us, hl with | [_], _ => rfl)) fun h7 => ?_
    (case a => k_is); (case l => k_is); (case c => k_is); (case k => k_is)
    refine' Kp.need (mg := mg) KX "many_fits" (Kp.top 8) ["thing"] (Kp.has_mk KX G ?a ?l ?c ?k (fun _ _ _ _ _ _ us hl => match us, hl with | [_], _ => rfl)) fun h8 => ?_
    (case a => k_is); (case l => k_is); (case c => k_is); (case k => k_is)
    refine' Kp.need (mg := mg) KX "house_fits" (Kp.top 9) ["many", "thing"] (Kp.has_mk KX G ?a ?l ?c ?k (fun _ _ _ _ _ _ us hl => match us, hl with | [_, _], _ => rfl)) fun h9 => ?_
    (case a => k_is); (case l => k_is); (case c => k_is); (case k => k_is)
    refine' Kp.need (mg := mg) KX "lot_fits" (Kp.top 10) ["many", "thing"] (Kp.has_mk KX G ?a ?l ?c ?k (fun _ _ _ _ _ _ us hl => match us, hl with | [_, _], _ => rfl)) fun h10 => ?_
    (case a => k_is); (case l => k_is); (case c => k_is); (case k => k_is)
    refine' Kp.need (mg := mg) KX "is_lots" (Kp.top 11) ["many", "thing"] (Kp.has_mk KX G ?a ?l ?c ?k (fun _ _ _ _ _ _ us hl => match us, hl with | [_, _], _ => rfl)) fun h11 => ?_
    (case a => k_is); (case l => k_is); (case c => k_is); (case k => k_is)
    refine' Kp.need (mg := mg) KX "fears_fit" (Kp.top 12) ["many", "thing"] (Kp.has_mk KX G ?a ?l ?c ?k (fun _ _ _ _ _ _ us hl => match us, hl with | [_, _], _ => rfl)) fun h12 => ?_
    (case a => k_is); (case l => k_is); (case c => k_is); (case k => k_is)
    refine' Kp.need (mg := mg) KX "lot_within" (Kp.top 13) ["one", "other"] (Kp.has_mk KX G ?a ?l ?c ?k (fun _ _ _ _ _ _ us hl => match us, hl with | [_, _], _ => rfl)) fun h13 => ?_
    (case a => k_is); (case l => k_is); (case c => k_is); (case k => k_is)
    refine' Kp.need (mg := mg) KX "others_in" (Kp.top 14) ["many", "lot"] (Kp.has_mk KX G ?a ?l ?c ?k (fun _ _ _ _ _ _ us hl => match us, hl with | [_, _], _ => rfl)) fun h14 => ?_
    (case a => k_is); (case l => k_is); (case c => k_is); (case k => k_is)
    refine' Kp.need (mg := mg) KX "lots_in" (Kp.top 15) ["many"] (Kp.has_mk KX G ?a ?l ?c ?k (fun _ _ _ _ _ _ us hl => match us, hl with | [_], _ => rfl)) fun h15 => ?_
    (case a => k_is); (case l => k_is); (case c => k_is); (case k => k_is)
    refine' Kp.need (mg := mg) KX "feared_in" (Kp.top 16) ["fears", "lot"] (Kp.has_mk KX G ?a ?l ?c ?k (fun _ _ _ _ _ _ us hl => match us, hl with | [_, _], _ => rfl)) fun h16 => ?_
    (case a => k_is); (case l => k_is); (case c => k_is); (case k => k_is)
    refine' Kp.need (mg := mg) KX "partings_in" (Kp.top 18) ["many", "fears"] (Kp.has_mk KX G ?a ?l ?c ?k (fun _ _ _ _ _ _ us hl => match us, hl with | [_, _], _ => rfl)) fun h18 => ?_
    (case a => k_is); (case l => k_is); (case c => k_is); (case k => k_is)
    refine' Kp.need (mg := mg) KX "atoms_in" (Kp.top 19) ["many", "fears"] (Kp.has_mk KX G ?a ?l ?c ?k (fun _ _ _ _ _ _ us hl => match us, hl with | [_, _], _ => rfl)) fun h19 => ?_
    (case a => k_is); (case l => k_is); (case c => k_is); (case k => k_is)
    refine' Kp.need (mg := mg) KX "is_parting" (Kp.top 20) ["many", "fears", "lot"] (Kp.has_mk KX G ?a ?l ?c ?k (fun _ _ _ _ _ _ us hl => match us, hl with | [_, _, _], _ => rfl)) fun h20 => ?_
    (case a => k_is); (case l => k_is); (case c => k_is); (case k => k_is)
    refine' Kp.need (mg := mg) KX "partings_of" (Kp.top 21) ["many", "fears"] (Kp.has_mk KX G ?a ?l ?c ?k (fun _ _ _ _ _ _ us hl => match us, hl with | [_, _], _ => rfl)) fun h21 => ?_
    (case a => k_is); (case l => k_is); (case c => k_is); (case k => k_is)
    refine' Kp.need (mg := mg) KX "parting_of" (Kp.top 22) ["many", "fears", "one", "other"] (Kp.has_mk KX G ?a ?l ?c ?k (fun _ _ _ _ _ _ us hl => match us, hl with | [_, _, _, _], _ => rfl)) fun h22 => ?_
    (case a => k_is); (case l => k_is); (case c => k_is); (case k => k_is)
    refine' Kp.need (mg := mg) KX "atoms_of" (Kp.top 23) ["many", "fears"] (Kp.has_mk KX G ?a ?l ?c ?k (fun _ _ _ _ _ _ us hl => match us, hl with | [_, _], _ => rfl)) fun h23 => ?_
    (case a => k_is); (case l => k_is); (case c => k_is); (case k => k_is)
    refine' Kp.need (mg := mg) KX "atom_at" (Kp.top 24) ["many", "fears", "house"] (Kp.has_mk KX G ?a ?l ?c ?k (fun _ _ _ _ _ _ us hl => match us, hl with | [_, _, _], _ => rfl)) fun h24 => ?_
    (case a => k_is); (case l => k_is); (case c => k_is); (case k => k_is)
    refine' Kp.need (mg := mg) KX "few_fears" (Kp.top 26) ["many", "few"] (Kp.has_mk KX G ?a ?l ?c ?k (fun _ _ _ _ _ _ us hl => match us, hl with | [_, _], _ => rfl)) fun h26 => ?_
    (case a => k_is); (case l => k_is); (case c => k_is); (case k => k_is)
    refine' Kp.need (mg := mg) KX "_law_draw" (Kp.top 28) ["_law_source", "_law_top"] (Kp.has_mk KX G ?a ?l ?c ?k (fun _ _ _ _ _ _ us hl => match us, hl with | [_, _], _ => rfl)) fun h28 => ?_
    (case a => k_is); (case l => k_is); (case c => k_is); (case k => k_is)
    refine' Kp.need (mg := mg) KX "_law_has" (Kp.top 29) ["_law_mark", "_law_house"] (Kp.has_mk KX G ?a ?l ?c ?k (fun _ _ _ _ _ _ us hl => match us, hl with | [_, _], _ => rfl)) fun h29 => ?_
    (case a => k_is); (case l => k_is); (case c => k_is); (case k => k_is)
    refine' Kp.need (mg := mg) KX "_law_lot_of" (Kp.top 30) ["_law_n", "_law_mark"] (Kp.has_mk KX G ?a ?l ?c ?k (fun _ _ _ _ _ _ us hl => match us, hl with | [_, _], _ => rfl)) fun h30 => ?_
    (case a => k_is); (case l => k_is); (case c => k_is); (case k => k_is)
    refine' Kp.need (mg := mg) KX "_law_full" (Kp.top 31) ["_law_n"] (Kp.has_mk KX G ?a ?l ?c ?k (fun _ _ _ _ _ _ us hl => match us, hl with | [_], _ => rfl)) fun h31 => ?_
    (case a => k_is); (case l => k_is); (case c => k_is); (case k => k_is)
    refine' Kp.need (mg := mg) KX "_law_ones" (Kp.top 32) ["_law_n", "_law_mark"] (Kp.has_mk KX G ?a ?l ?c ?k (fun _ _ _ _ _ _ us hl => match us, hl with | [_, _], _ => rfl)) fun h32 => ?_
    (case a => k_is); (case l => k_is); (case c => k_is); (case k => k_is)
    refine' Kp.need (mg := mg) KX "_law_greatest" (Kp.top 33) ["_law_marks"] (Kp.has_mk KX G ?a ?l ?c ?k (fun _ _ _ _ _ _ us hl => match us, hl with | [_], _ => rfl)) fun h33 => ?_
    (case a => k_is); (case l => k_is); (case c => k_is); (case k => k_is)
    refine' Kp.need (mg := mg) KX "_law_groups" (Kp.top 34) ["_law_source", "_law_n"] (Kp.has_mk KX G ?a ?l ?c ?k (fun _ _ _ _ _ _ us hl => match us, hl with | [_, _], _ => rfl)) fun h34 => ?_
    (case a => k_is); (case l => k_is); (case c => k_is); (case k => k_is)
    refine' Kp.need (mg := mg) KX "_law_drawn_marks" (Kp.top 35) ["_law_source", "_law_n"] (Kp.has_mk KX G ?a ?l ?c ?k (fun _ _ _ _ _ _ us hl => match us, hl with | [_, _], _ => rfl)) fun h35 => ?_
    (case a => k_is); (case l => k_is); (case c => k_is); (case k => k_is)
    refine' Kp.need (mg := mg) KX "_law_partings" (Kp.top 36) ["_law_n", "_law_tops"] (Kp.has_mk KX G ?a ?l ?c ?k (fun _ _ _ _ _ _ us hl => match us, hl with | [_, _], _ => rfl)) fun h36 => ?_
    (case a => k_is); (case l => k_is); (case c => k_is); (case k => k_is)
    refine' Kp.need (mg := mg) KX "_law_set_of" (Kp.top 37) ["_law_n", "_law_marks"] (Kp.has_mk KX G ?a ?l ?c ?k (fun _ _ _ _ _ _ us hl => match us, hl with | [_, _], _ => rfl)) fun h37 => ?_
    (case a => k_is); (case l => k_is); (case c => k_is); (case k => k_is)
    refine' Kp.need (mg := mg) KX "_law_atom_of" (Kp.top 38) ["_law_n", "_law_parted", "_law_house"] (Kp.has_mk KX G ?a ?l ?c ?k (fun _ _ _ _ _ _ us hl => match us, hl with | [_, _, _], _ => rfl)) fun h38 => ?_
    (case a => k_is); (case l => k_is); (case c => k_is); (case k => k_is)
    refine' Kp.need (mg := mg) KX "_law_two_are_all" (Kp.top 39) ["_law_n", "_law_tops"] (Kp.has_mk KX G ?a ?l ?c ?k (fun _ _ _ _ _ _ us hl => match us, hl with | [_, _], _ => rfl)) fun h39 => ?_
    (case a => k_is); (case l => k_is); (case c => k_is); (case k => k_is)
    refine' Kp.need (mg := mg) KX "_law_partings_hold" (Kp.top 40) ["_law_n", "_law_fears", "_law_tops", "_law_parted"] (Kp.has_mk KX G ?a ?l ?c ?k (fun _ _ _ _ _ _ us hl => match us, hl with | [_, _, _, _], _ => rfl)) fun h40 => ?_
    (case a => k_is); (case l => k_is); (case c => k_is); (case k => k_is)
    refine' Kp.need (mg := mg) KX "_law_atoms_hold" (Kp.top 41) ["_law_n", "_law_fears", "_law_parted", "_law_mates"] (Kp.has_mk KX G ?a ?l ?c ?k (fun _ _ _ _ _ _ us hl => match us, hl with | [_, _, _, _], _ => rfl)) fun h41 => ?_
    (case a => k_is); (case l => k_is); (case c => k_is); (case k => k_is)
    refine' Kp.need (mg := mg) KX "_law_pairs" (Kp.top 42) ["_law_source", "_law_n"] (Kp.has_mk KX G ?a ?l ?c ?k (fun _ _ _ _ _ _ us hl => match us, hl with | [_, _], _ => rfl)) fun h42 => ?_
    (case a => k_is); (case l => k_is); (case c => k_is); (case k => k_is)
    refine' Kp.need (mg := mg) KX "_law_parting_hold" (Kp.top 43) ["_law_n", "_law_fears", "_law_parted", "_law_mates", "_law_pairs_here"] (Kp.has_mk KX G ?a ?l ?c ?k (fun _ _ _ _ _ _ us hl => match us, hl with | [_, _, _, _, _], _ => rfl)) fun h43 => ?_
    (case a => k_is); (case l => k_is); (case c => k_is); (case k => k_is)
    refine' Kp.need (mg := mg) KX "_law_turned" (Kp.top 44) ["_law_n", "_law_lot"] (Kp.has_mk KX G ?a ?l ?c ?k (fun _ _ _ _ _ _ us hl => match us, hl with | [_, _], _ => rfl)) fun h44 => ?_
    (case a => k_is); (case l => k_is); (case c => k_is); (case k => k_is)
    refine' Kp.need (mg := mg) KX "_law_turned_hold" (Kp.top 45) ["_law_n", "_law_fears", "_law_parted", "_law_mates"] (Kp.has_mk KX G ?a ?l ?c ?k (fun _ _ _ _ _ _ us hl => match us, hl with | [_, _, _, _], _ => rfl)) fun h45 => ?_
    (case a => k_is); (case l => k_is); (case c => k_is); (case k => k_is)
    refine' Kp.need (mg := mg) KX "_law_few_hold" (Kp.top 46) ["_law_source", "_law_n"] (Kp.has_mk KX G ?a ?l ?c ?k (fun _ _ _ _ _ _ us hl => match us, hl with | [_, _], _ => rfl)) fun h46 => ?_
    (case a => k_is); (case l => k_is); (case c => k_is); (case k => k_is)
    refine' Kp.need (mg := mg) KX "_law_refused" (Kp.top 47) ["_law_number", "_law_n", "_law_fears", "_law_worth"] (Kp.has_mk KX G ?a ?l ?c ?k (fun _ _ _ _ _ _ us hl => match us, hl with | [_, _, _, _], _ => rfl)) fun h47 => ?_
    (case a => k_is); (case l => k_is); (case c => k_is); (case k => k_is)
    refine' Kp.need (mg := mg) KX "_law_ends_hold" (Kp.top 48) ["_law_n", "_law_fears"] (Kp.has_mk KX G ?a ?l ?c ?k (fun _ _ _ _ _ _ us hl => match us, hl with | [_, _], _ => rfl)) fun h48 => ?_
    (case a => k_is); (case l => k_is); (case c => k_is); (case k => k_is)
    refine' Kp.finish Kp.mathm ⟨bi, Kp.oex_mk ?xL ?xv ?sa ?eC ?tC ?kC, PySem.W.mg_of KX G ?gC, ?nw, ?na, ?iC, ?tI, L2.fun_mk ?li ?ci ?ki, ⟨?ga, ?gg, ?eC2, ?hC⟩, Kp.exm_own ?eC3 ?cC ?tC3 ?sC, h5, h6, h7, h8, h9, h10, h11, h12, h13, h14, h15, h16, h18, h19, h20, h21, h22, h23, h24, h26, h28, h29, h30, h31, h32, h33, h34, h35, h36, h37, h38, h39, h40, h41, h42, h43, h44, h45, h46, h47, h48⟩ KX G hmg ?a ?l ?c ?k
    (case gC => k_is); (case xL => k_is); (case xv => exact ⟨_, _, _, _, _, _, _, _, _, _, _, _, _, _, _, rfl, by first | rfl | decide +kernel⟩); (case sa => k_is); (case eC => k_is); (case tC => k_is); (case kC => k_is); (case nw => k_is); (case na => k_is); (case iC => k_is); (case tI => k_is); (case li => k_is); (case ci => k_is); (case ki => k_is)
    (case ga => k_is); (case gg => k_is); (case eC2 => k_is); (case hC => k_is); (case eC3 => k_is); (case cC => k_is); (case tC3 => k_is); (case sC => first | rfl | k_is)
    (case a => k_is); (case l => k_is); (case c => k_is); (case k => k_is)
