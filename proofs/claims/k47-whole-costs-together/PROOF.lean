import PyProof.Rows.All
import Wide.All
import OpenK.AllK
import Wide.FinOn
import HandS.ForMost
import HandS.Evl
import HandS.Wide
import HandS.Gcd
import HandS.Deep
import HandS.Defaults
import HandS.Conv
import HandS.Style
import HandS.IsInst
import HandS.HeadHook2
import PySem.Challenge.RW_surehedge_k47_whole_costs_together
import KE.KStateDown
import Lean
import HandS.Head0
import HandS.Head1
import HandS.Head2
import HandS.Head3
import HandS.HeadEnd
import KE.GoesMore
import KE.GoesEnum
import HandS.Text
import KE.KxText
section
set_option Elab.async false
set_option linter.all false
set_option maxRecDepth 100000
set_option maxHeartbeats 2000000
/-! data in the heap: a layer over the hand layer in which values stand for data -/
namespace Hk
open PySem PySem.Spec PyProof.Rows L2
open Evl (Ex)

/-! ### data -/
mutual
inductive Is (K : PySem.W.Frag) (H : Hp) : V → PyData → Prop
  | non : Is K H .non .none
  | bl (b : Bool) : Is K H (.bl b) (.bool b)
  | int (i : Int) : Is K H (.int i) (.int i)
  | str (x : Str) : Is K H (.str x) (.str x)
  | lst {a : Addr} {xs : List V} {ds : List PyData} : H a = some (.lst xs) → IsAll K H xs ds → Is K H (.ref a) (.list ds)
  | tup {a : Addr} {xs : List V} {ds : List PyData} : SqT K H a xs → IsAll K H xs ds → Is K H (.ref a) (.tuple ds)
  | scr {a : Addr} {ns : List Int} {q : List (PyData × PyData)} : SqL K H a (ns.map V.int) → q = ns.map (fun n => (PyData.int n, PyData.none)) → Is K H (.ref a) (.dict q)
inductive IsAll (K : PySem.W.Frag) (H : Hp) : List V → List PyData → Prop
  | nil : IsAll K H [] []
  | cons {v : V} {vs : List V} {d : PyData} {ds : List PyData} : Is K H v d → IsAll K H vs ds → IsAll K H (v :: vs) (d :: ds)
end
section
variable {K : PySem.W.Frag} {H H' : Hp}
mutual
theorem Is.mono (e : Ex H H') : ∀ (d : PyData) (v : V), Is K H v d → Is K H' v d
  | .none, _, h => by cases h; exact .non
  | .bool b, _, h => by cases h; exact .bl b
  | .int i, _, h => by cases h; exact .int i
  | .str x, _, h => by cases h; exact .str x
  | .list ds, _, h => by
    cases h with
    | lst h1 h2 => exact .lst (e _ _ h1) (IsAll.mono e ds _ h2)
  | .tuple ds, _, h => by
    cases h with
    | tup h1 h2 => exact .tup (Evl.ex_t e h1) (IsAll.mono e ds _ h2)
  | .dict _, _, h => by
    cases h with
    | scr h1 h2 => exact .scr (Evl.ex_l e h1) h2
theorem IsAll.mono (e : Ex H H') : ∀ (ds : List PyData) (vs : List V), IsAll K H vs ds → IsAll K H' vs ds
  | [], _, h => by cases h; exact .nil
  | d :: ds, _, h => by
    cases h with
    | cons h1 h2 => exact .cons (Is.mono e d _ h1) (IsAll.mono e ds _ h2)
end
theorem Is.up {v : V} {d : PyData} (h : Is K H v d) (e : Ex H H') : Is K H' v d := Is.mono e d v h
theorem IsAll.up {vs : List V} {ds : List PyData} (h : IsAll K H vs ds) (e : Ex H H') : IsAll K H' vs ds := IsAll.mono e ds vs h
mutual
theorem Is.dp : ∀ (d : PyData) (v : V), d.canLay0 = true → Is K H v d → Dp K H v d
  | .none, _, _, h => by cases h; exact .non
  | .bool b, _, _, h => by cases h; exact .bl b
  | .int i, _, _, h => by cases h; exact .int i
  | .str x, _, _, h => by cases h; exact .str x
  | .list ds, _, c, h => by
    cases h with
    | lst h1 h2 => exact .lst (SqL.of h1) (IsAll.dp ds _ (by simpa [PyData.canLay0] using c) h2)
  | .tuple ds, _, c, h => by
    cases h with
    | tup h1 h2 => exact .tup h1 (IsAll.dp ds _ (by simpa [PyData.canLay0] using c) h2)
  | .dict _, _, c, h => by simp [PyData.canLay0] at c
theorem IsAll.dp : ∀ (ds : List PyData) (vs : List V), PyData.canLayAll0 ds = true → IsAll K H vs ds → DpAll K H vs ds
  | [], _, _, h => by cases h; exact .nil
  | d :: ds, _, c, h => by
    have c' : d.canLay0 = true ∧ PyData.canLayAll0 ds = true := by simpa [PyData.canLayAll0] using c
    cases h with
    | cons h1 h2 => exact .cons (Is.dp d _ c'.1 h1) (IsAll.dp ds _ c'.2 h2)
end
theorem IsAll.len : ∀ {vs : List V} {ds : List PyData}, IsAll K H vs ds → vs.length = ds.length
  | _, _, .nil => rfl
  | _, _, .cons _ t => congrArg Nat.succ (IsAll.len t)
theorem IsAll.get : ∀ {vs : List V} {ds : List PyData} {i : Nat} {d : PyData}, IsAll K H vs ds → ds[i]? = some d → ∃ v, vs[i]? = some v ∧ Is K H v d
  | _, _, _, _, .nil, e => by simp at e
  | _, _, 0, _, .cons r _, e => by simp at e; subst e; exact ⟨_, rfl, r⟩
  | _, _, i + 1, _, .cons _ t, e => by
    obtain ⟨v, h1, h2⟩ := IsAll.get (i := i) t (by simpa using e)
    exact ⟨v, by simpa using h1, h2⟩
theorem IsAll.getV : ∀ {vs : List V} {ds : List PyData} {i : Nat} {v : V}, IsAll K H vs ds → vs[i]? = some v → ∃ d, ds[i]? = some d ∧ Is K H v d
  | _, _, _, _, .nil, e => by simp at e
  | _, _, 0, _, .cons r _, e => by simp at e; subst e; exact ⟨_, rfl, r⟩
  | _, _, i + 1, _, .cons _ t, e => by
    obtain ⟨v, h1, h2⟩ := IsAll.getV (i := i) t (by simpa using e)
    exact ⟨v, by simpa using h1, h2⟩
theorem IsAll.app : ∀ {vs us : List V} {ds es : List PyData}, IsAll K H vs ds → IsAll K H us es → IsAll K H (vs ++ us) (ds ++ es)
  | _, _, _, _, .nil, s => s
  | _, _, _, _, .cons r t, s => .cons r (IsAll.app t s)
theorem IsAll.set : ∀ {vs : List V} {ds : List PyData} (i : Nat) {v : V} {d : PyData}, IsAll K H vs ds → Is K H v d → IsAll K H (vs.set i v) (ds.set i d)
  | _, _, _, _, _, .nil, _ => .nil
  | _, _, 0, _, _, .cons _ t, s => .cons s t
  | _, _, i + 1, _, _, .cons r t, s => .cons r (IsAll.set i t s)
theorem IsAll.drop : ∀ {vs : List V} {ds : List PyData} (i : Nat), IsAll K H vs ds → IsAll K H (vs.drop i) (ds.drop i)
  | _, _, 0, h => h
  | _, _, i + 1, .nil => .nil
  | _, _, i + 1, .cons _ t => IsAll.drop i t
theorem IsAll.take : ∀ {vs : List V} {ds : List PyData} (i : Nat), IsAll K H vs ds → IsAll K H (vs.take i) (ds.take i)
  | _, _, 0, h => by simpa using IsAll.nil
  | _, _, i + 1, .nil => .nil
  | _, _, i + 1, .cons r t => by simpa using IsAll.cons r (IsAll.take i t)
theorem IsAll.rev : ∀ {vs : List V} {ds : List PyData}, IsAll K H vs ds → IsAll K H vs.reverse ds.reverse
  | _, _, .nil => .nil
  | _, _, .cons r t => by
    rw [List.reverse_cons, List.reverse_cons]
    exact (IsAll.rev t).app (.cons r .nil)
end

/-! ### addresses that are hidden -/
open Classical in
noncomputable def cut (M : Addr → Prop) (H : Hp) : Hp := fun a => if M a then none else H a
theorem cut_of {M : Addr → Prop} {H : Hp} {a : Addr} (h : ¬ M a) : cut M H a = H a := by unfold cut; rw [if_neg h]
theorem cut_on {M : Addr → Prop} {H : Hp} {a : Addr} (h : M a) : cut M H a = none := by unfold cut; rw [if_pos h]
theorem cut_ex {M : Addr → Prop} {H H' : Hp} (e : Ex H H') : Ex (cut M H) (cut M H') := fun a o h => by
  by_cases m : M a
  · rw [cut_on m] at h; cases h
  · rw [cut_of m] at h ⊢; exact e a o h
theorem cut_full {M : Addr → Prop} {H : Hp} : Ex (cut M H) H := fun a o h => by
  by_cases m : M a
  · rw [cut_on m] at h; cases h
  · rw [cut_of m] at h; exact h
theorem cut_less {M N : Addr → Prop} {H : Hp} (e : ∀ a, N a → M a) : Ex (cut M H) (cut N H) := fun a o h => by
  by_cases m : M a
  · rw [cut_on m] at h; cases h
  · rw [cut_of m] at h; rw [cut_of fun n => m (e a n)]; exact h
theorem cut_upd {M : Addr → Prop} {H : Hp} {p : Addr} {o : HO} (m : M p) : cut M (upd H p o) = cut M H := by
  funext a
  by_cases n : M a
  · rw [cut_on n, cut_on n]
  · rw [cut_of n, cut_of n, upd_ne (fun e => n (by rw [e]; exact m))]
/-! data without a list -/
mutual
def flatD : PyData → Bool
  | .tuple ds => flatDs ds
  | .list _ => false
  | .dict _ => false
  | _ => true
def flatDs : List PyData → Bool
  | [] => true
  | d :: ds => flatD d && flatDs ds
end
section
variable {K : PySem.W.Frag} {H : Hp} {M : Addr → Prop}
theorem sqT_cut (hM : ∀ a, M a → ∃ xs, H a = some (.lst xs)) {a : Addr} {xs : List V} (h : SqT K H a xs) : SqT K (cut M H) a xs := by
  rcases h with h | h
  · refine Or.inl ?_
    have na : ¬ M a := fun m => by
      obtain ⟨ys, e⟩ := hM a m
      rcases h with h | ⟨o, h⟩
      · rw [h] at e; cases e
      · rw [h] at e; cases e
    rcases h with h | ⟨o, h⟩
    · exact Or.inl (by rw [cut_of na]; exact h)
    · exact Or.inr ⟨o, by rw [cut_of na]; exact h⟩
  · exact Or.inr h
mutual
theorem Is.flat (hM : ∀ a, M a → ∃ xs, H a = some (.lst xs)) : ∀ (d : PyData) (v : V), flatD d = true → Is K H v d → Is K (cut M H) v d
  | .none, _, _, h => by cases h; exact .non
  | .bool b, _, _, h => by cases h; exact .bl b
  | .int i, _, _, h => by cases h; exact .int i
  | .str x, _, _, h => by cases h; exact .str x
  | .list ds, _, f, h => by cases f
  | .tuple ds, _, f, h => by
    cases h with
    | tup h1 h2 => exact .tup (sqT_cut hM h1) (IsAll.flat hM ds _ f h2)
  | .dict _, _, f, h => by cases f
theorem IsAll.flat (hM : ∀ a, M a → ∃ xs, H a = some (.lst xs)) : ∀ (ds : List PyData) (vs : List V), flatDs ds = true → IsAll K H vs ds → IsAll K (cut M H) vs ds
  | [], _, _, h => by cases h; exact .nil
  | d :: ds, _, f, h => by
    have f' := Bool.and_eq_true_iff.mp (show (flatD d && flatDs ds) = true from f)
    cases h with
    | cons h1 h2 => exact .cons (Is.flat hM d _ f'.1 h1) (IsAll.flat hM ds _ f'.2 h2)
end
end

/-! ### slots -/
/-- a slot: nothing known, data, a list of one's own that still changes, a value as it is -/
inductive SD where
  | no | d (x : PyData) | m (xs : List PyData) | v (x : V)
def SlotOk (K : PySem.W.Frag) (C H : Hp) (x : Option V) : SD → Prop
  | .no => True
  | .d y => ∃ v, x = some v ∧ Is K C v y
  | .m ys => ∃ p vs, x = some (.ref p) ∧ H p = some (.lst vs) ∧ IsAll K C vs ys
  | .v u => x = some u
structure Held (K : PySem.W.Frag) (B : Hp) (Z M : Addr → Prop) (σ : L2.St) (H : Hp) (ss : List SD) : Prop where
  ex : Ex B H
  zM : ∀ a, Z a → M a
  mB : ∀ a, M a → Z a ∨ B a = none
  mH : ∀ a, M a → ∃ xs, H a = some (.lst xs)
  zB : ∀ a, Z a → ∃ xs, B a = some (.lst xs)
  len : σ.length = ss.length
  slot : ∀ (i : Nat) (x : Option V) (sd : SD), σ[i]? = some x → ss[i]? = some sd → SlotOk K (cut M H) H x sd
  mm : ∀ (i : Nat) (p : Addr) (ys : List PyData), ss[i]? = some (.m ys) → σ[i]? = some (some (.ref p)) → M p ∧ B p = none
  inj : ∀ (i j : Nat) (p : Addr) (ys zs : List PyData), ss[i]? = some (.m ys) → ss[j]? = some (.m zs) → σ[i]? = some (some (.ref p)) → σ[j]? = some (some (.ref p)) → i = j
section
variable {K : PySem.W.Frag} {B : Hp} {Z M : Addr → Prop} {σ : L2.St} {H H' : Hp} {ss : List SD}
theorem SlotOk.up {C C' : Hp} {x : Option V} {sd : SD} (h : SlotOk K C H x sd) (e : Ex C C') (e' : Ex H H') : SlotOk K C' H' x sd := by
  cases sd with
  | no => trivial
  | d y => obtain ⟨v, q, r⟩ := h; exact ⟨v, q, r.up e⟩
  | m ys => obtain ⟨p, vs, q, r, t⟩ := h; exact ⟨p, vs, q, e' _ _ r, t.up e⟩
  | v u => exact h
theorem Held.step (h : Held K B Z M σ H ss) (e : Ex H H') : Held K B Z M σ H' ss :=
  ⟨h.ex.trans e, h.zM, h.mB, fun a m => let ⟨xs, q⟩ := h.mH a m; ⟨xs, e a _ q⟩, h.zB, h.len, fun i x sd a b => (h.slot i x sd a b).up (cut_ex e) e, h.mm, h.inj⟩
theorem Held.get (h : Held K B Z M σ H ss) {i : Nat} {sd : SD} (e : ss[i]? = some sd) : ∃ x, σ[i]? = some x ∧ SlotOk K (cut M H) H x sd := by
  have hi : i < σ.length := by rw [h.len]; exact (List.getElem?_eq_some_iff.mp e).1
  exact ⟨σ[i], List.getElem?_eq_getElem hi, h.slot i _ sd (List.getElem?_eq_getElem hi) e⟩
theorem Held.getD (h : Held K B Z M σ H ss) {i : Nat} {y : PyData} (e : ss[i]? = some (.d y)) : ∃ v, σ[i]? = some (some v) ∧ Is K (cut M H) v y := by
  obtain ⟨x, q, v, rfl, r⟩ := h.get e
  exact ⟨v, q, r⟩
theorem Held.getM (h : Held K B Z M σ H ss) {i : Nat} {ys : List PyData} (e : ss[i]? = some (.m ys)) : ∃ p vs, σ[i]? = some (some (.ref p)) ∧ H p = some (.lst vs) ∧ IsAll K (cut M H) vs ys ∧ M p ∧ B p = none := by
  obtain ⟨x, q, p, vs, rfl, r, t⟩ := h.get e
  exact ⟨p, vs, q, r, t, h.mm i p ys e q⟩
theorem Held.getV (h : Held K B Z M σ H ss) {i : Nat} {u : V} (e : ss[i]? = some (.v u)) : σ[i]? = some (some u) := by
  obtain ⟨x, q, r⟩ := h.get e
  have r' : x = some u := r
  rw [q, r']
theorem Held.new (h : Held K B Z M σ H ss) {p : Addr} (n : H p = none) : ¬ M p ∧ B p = none := by
  refine ⟨fun m => ?_, Evl.fresh_back h.ex n⟩
  obtain ⟨xs, e⟩ := h.mH p m
  rw [n] at e; cases e
/-- a slot gets data -/
theorem Held.setD (h : Held K B Z M σ H ss) (i : Nat) {v : V} {y : PyData} (r : Is K (cut M H) v y) : Held K B Z M (σ.set i (some v)) H (ss.set i (.d y)) := by
  refine ⟨h.ex, h.zM, h.mB, h.mH, h.zB, by simp [h.len], fun j x sd a b => ?_, fun j p ys a b => ?_, fun j k p ys zs a b c d => ?_⟩
  · by_cases e : i = j
    · subst e
      have hi : i < ss.length := by have := (List.getElem?_eq_some_iff.mp b).1; simpa using this
      rw [List.getElem?_set_self (by rw [h.len]; exact hi)] at a
      rw [List.getElem?_set_self hi] at b
      cases a; cases b
      exact ⟨v, rfl, r⟩
    · rw [List.getElem?_set_ne e] at a b
      exact h.slot j x sd a b
  · by_cases e : i = j
    · subst e
      have hi : i < ss.length := by have := (List.getElem?_eq_some_iff.mp a).1; simpa using this
      rw [List.getElem?_set_self hi] at a
      cases a
    · rw [List.getElem?_set_ne e] at a b
      exact h.mm j p ys a b
  · have hj : i ≠ j := fun e => by
      subst e
      have hi : i < ss.length := by have := (List.getElem?_eq_some_iff.mp a).1; simpa using this
      rw [List.getElem?_set_self hi] at a
      cases a
    have hk : i ≠ k := fun e => by
      subst e
      have hi : i < ss.length := by have := (List.getElem?_eq_some_iff.mp b).1; simpa using this
      rw [List.getElem?_set_self hi] at b
      cases b
    rw [List.getElem?_set_ne hj] at a c
    rw [List.getElem?_set_ne hk] at b d
    exact h.inj j k p ys zs a b c d
/-- what is known of a slot is forgotten -/
theorem Held.forget (h : Held K B Z M σ H ss) (i : Nat) (x : Option V) : Held K B Z M (σ.set i x) H (ss.set i .no) := by
  refine ⟨h.ex, h.zM, h.mB, h.mH, h.zB, by simp [h.len], fun j y sd a b => ?_, fun j p ys a b => ?_, fun j k p ys zs a b c d => ?_⟩
  · by_cases e : i = j
    · subst e
      have hi : i < ss.length := by have := (List.getElem?_eq_some_iff.mp b).1; simpa using this
      rw [List.getElem?_set_self hi] at b
      cases b
      trivial
    · rw [List.getElem?_set_ne e] at a b
      exact h.slot j y sd a b
  · by_cases e : i = j
    · subst e
      have hi : i < ss.length := by have := (List.getElem?_eq_some_iff.mp a).1; simpa using this
      rw [List.getElem?_set_self hi] at a
      cases a
    · rw [List.getElem?_set_ne e] at a b
      exact h.mm j p ys a b
  · have hj : i ≠ j := fun e => by
      subst e
      have hi : i < ss.length := by have := (List.getElem?_eq_some_iff.mp a).1; simpa using this
      rw [List.getElem?_set_self hi] at a
      cases a
    have hk : i ≠ k := fun e => by
      subst e
      have hi : i < ss.length := by have := (List.getElem?_eq_some_iff.mp b).1; simpa using this
      rw [List.getElem?_set_self hi] at b
      cases b
    rw [List.getElem?_set_ne hj] at a c
    rw [List.getElem?_set_ne hk] at b d
    exact h.inj j k p ys zs a b c d
/-- one more address is hidden: a new list -/
theorem Held.hide (h : Held K B Z M σ H ss) {p : Addr} {xs : List V} (n : H p = none) : Held K B Z (fun a => M a ∨ a = p) σ (upd H p (.lst xs)) ss := by
  obtain ⟨nM, nB⟩ := h.new n
  have e := Ex.new (o := .lst xs) n
  refine ⟨h.ex.trans e, fun a z => .inl (h.zM a z), fun a m => ?_, fun a m => ?_, h.zB, h.len, fun i x sd a b => ?_, fun i q ys a b => ?_, h.inj⟩
  · rcases m with m | m
    · exact h.mB a m
    · exact .inr (by rw [m]; exact nB)
  · rcases m with m | m
    · obtain ⟨ys, q⟩ := h.mH a m
      exact ⟨ys, e a _ q⟩
    · exact ⟨xs, by rw [m]; exact upd_same⟩
  · refine (h.slot i x sd a b).up (fun b o q => ?_) e
    have nb : b ≠ p := fun z => by subst z; rw [cut_of nM, n] at q; cases q
    by_cases mb : M b
    · rw [cut_on mb] at q; cases q
    · rw [cut_of mb] at q
      rw [cut_of (by rintro (z | z); exact mb z; exact nb z), upd_ne nb]
      exact q
  · obtain ⟨m, z⟩ := h.mm i q ys a b
    exact ⟨.inl m, z⟩
/-- a hidden list of one's own changes -/
theorem Held.chg (h : Held K B Z M σ H ss) {p : Addr} {xs : List V} (m : M p) (nB : B p = none) (ns : ∀ (i : Nat) (ys : List PyData), ss[i]? = some (.m ys) → σ[i]? ≠ some (some (.ref p))) : Held K B Z M σ (upd H p (.lst xs)) ss := by
  refine ⟨h.ex.mut nB, h.zM, h.mB, fun a q => ?_, h.zB, h.len, fun i x sd a b => ?_, h.mm, h.inj⟩
  · by_cases e : a = p
    · exact ⟨xs, by rw [e]; exact upd_same⟩
    · rw [upd_ne e]; exact h.mH a q
  · rw [cut_upd m]
    have q := h.slot i x sd a b
    cases sd with
    | no => trivial
    | d y => exact q
    | m ys =>
      obtain ⟨r, vs, rfl, e1, e2⟩ := q
      have nr : r ≠ p := fun z => ns i ys b (by rw [a, z])
      exact ⟨r, vs, rfl, by rw [upd_ne nr]; exact e1, e2⟩
    | v u => exact q
/-- a slot's list changes -/
theorem Held.setM (h : Held K B Z M σ H ss) {i : Nat} {p : Addr} {ys zs : List PyData} {xs : List V} (e : ss[i]? = some (.m ys)) (hp : σ[i]? = some (some (.ref p))) (r : IsAll K (cut M H) xs zs) :
    Held K B Z M σ (upd H p (.lst xs)) (ss.set i (.m zs)) := by
  obtain ⟨m, nB⟩ := h.mm i p ys e hp
  have hi : i < ss.length := (List.getElem?_eq_some_iff.mp e).1
  refine ⟨h.ex.mut nB, h.zM, h.mB, fun a q => ?_, h.zB, by simp [h.len], fun j x sd a b => ?_, fun j q us a b => ?_, fun j k q us ws a b c d => ?_⟩
  · by_cases e : a = p
    · exact ⟨xs, by rw [e]; exact upd_same⟩
    · rw [upd_ne e]; exact h.mH a q
  · rw [cut_upd m]
    by_cases ej : i = j
    · subst ej
      rw [List.getElem?_set_self hi] at b
      rw [hp] at a
      cases a; cases b
      exact ⟨p, xs, rfl, upd_same, r⟩
    · rw [List.getElem?_set_ne ej] at b
      have q := h.slot j x sd a b
      cases sd with
      | no => trivial
      | d y => exact q
      | m us =>
        obtain ⟨r, vs, rfl, e1, e2⟩ := q
        have nr : r ≠ p := fun z => ej (h.inj i j p ys us e b hp (by rw [a, z]))
        exact ⟨r, vs, rfl, by rw [upd_ne nr]; exact e1, e2⟩
      | v u => exact q
  · by_cases ej : i = j
    · subst ej
      rw [hp] at b; cases b
      exact ⟨m, nB⟩
    · rw [List.getElem?_set_ne ej] at a
      exact h.mm j q us a b
  · have f : ∀ (j : Nat) (ws : List PyData), (ss.set i (.m zs))[j]? = some (.m ws) → ∃ vs, ss[j]? = some (SD.m vs) := fun j ws b => by
      by_cases ej : i = j
      · subst ej; exact ⟨ys, e⟩
      · rw [List.getElem?_set_ne ej] at b; exact ⟨ws, b⟩
    obtain ⟨us', a'⟩ := f j us a
    obtain ⟨ws', b'⟩ := f k ws b
    exact h.inj j k q us' ws' a' b' c d
/-- a slot gets a new list of its own -/
theorem Held.setNew (h : Held K B Z M σ H ss) (i : Nat) {p : Addr} {vs : List V} {ys : List PyData} {H' : Hp} (n : H p = none) (e : Ex H H') (hp : H' p = some (.lst vs)) (r : IsAll K (cut (fun a => M a ∨ a = p) H') vs ys) :
    Held K B Z (fun a => M a ∨ a = p) (σ.set i (some (.ref p))) H' (ss.set i (.m ys)) := by
  obtain ⟨nM, nB⟩ := h.new n
  have h' := h.step e
  have sub : Ex (cut M H) (cut (fun a => M a ∨ a = p) H') := fun b o q => by
    have nb : b ≠ p := fun z => by subst z; rw [cut_of nM, n] at q; cases q
    by_cases mb : M b
    · rw [cut_on mb] at q; cases q
    · rw [cut_of mb] at q
      rw [cut_of (by rintro (z | z); exact mb z; exact nb z)]
      exact e _ _ q
  refine ⟨h'.ex, fun a z => .inl (h.zM a z), fun a m => ?_, fun a m => ?_, h.zB, by simp [h.len], fun j x sd a b => ?_, fun j q us a b => ?_, fun j k q us ws a b c d => ?_⟩
  · rcases m with m | m
    · exact h.mB a m
    · exact .inr (by rw [m]; exact nB)
  · rcases m with m | m
    · exact h'.mH a m
    · exact ⟨vs, by rw [m]; exact hp⟩
  · by_cases ej : i = j
    · subst ej
      have hi : i < ss.length := by have := (List.getElem?_eq_some_iff.mp b).1; simpa using this
      rw [List.getElem?_set_self (by rw [h.len]; exact hi)] at a
      rw [List.getElem?_set_self hi] at b
      cases a; cases b
      exact ⟨p, vs, rfl, hp, r⟩
    · rw [List.getElem?_set_ne ej] at a b
      exact (h.slot j x sd a b).up sub e
  · by_cases ej : i = j
    · subst ej
      have hi : i < ss.length := by have := (List.getElem?_eq_some_iff.mp a).1; simpa using this
      rw [List.getElem?_set_self (by rw [h.len]; exact hi)] at b
      cases b
      exact ⟨.inr rfl, nB⟩
    · rw [List.getElem?_set_ne ej] at a b
      obtain ⟨m, z⟩ := h.mm j q us a b
      exact ⟨.inl m, z⟩
  · have old : ∀ (j : Nat) (ws : List PyData), i ≠ j → (ss.set i (.m ys))[j]? = some (.m ws) → (σ.set i (some (.ref p)))[j]? = some (some (.ref q)) → q ≠ p := fun j ws ej b c z => by
      rw [List.getElem?_set_ne ej] at b c
      obtain ⟨m, _⟩ := h.mm j q ws b c
      exact nM (z ▸ m)
    have new : ∀ (ws : List PyData), (ss.set i (.m ys))[i]? = some (.m ws) → (σ.set i (some (.ref p)))[i]? = some (some (.ref q)) → q = p := fun ws b c => by
      have hi : i < ss.length := by have := (List.getElem?_eq_some_iff.mp b).1; simpa using this
      rw [List.getElem?_set_self (by rw [h.len]; exact hi)] at c
      cases c; rfl
    by_cases ej : i = j
    · subst ej
      by_cases ek : i = k
      · exact ek
      · exact absurd (new us a c) (old k ws ek b d)
    · by_cases ek : i = k
      · subst ek
        exact absurd (new ws b d) (old j us ej a c)
      · rw [List.getElem?_set_ne ej] at a c
        rw [List.getElem?_set_ne ek] at b d
        exact h.inj j k q us ws a b c d
/-- a list of one's own changes no more -/
theorem Held.frz (h : Held K B Z M σ H ss) {i : Nat} {ys : List PyData} (e : ss[i]? = some (.m ys)) : ∃ M', (∀ a, M' a → M a) ∧ Held K B Z M' σ H (ss.set i (.d (.list ys))) := by
  obtain ⟨p, vs, hp, hv, ha, m, nB⟩ := h.getM e
  have hi : i < ss.length := (List.getElem?_eq_some_iff.mp e).1
  have sub : Ex (cut M H) (cut (fun a => M a ∧ a ≠ p) H) := cut_less fun a q => q.1
  refine ⟨fun a => M a ∧ a ≠ p, fun a q => q.1, h.ex, fun a z => ⟨h.zM a z, fun q => ?_⟩, fun a q => h.mB a q.1, fun a q => h.mH a q.1, h.zB, by simp [h.len], fun j x sd a b => ?_, fun j q us a b => ?_, fun j k q us ws a b c d => ?_⟩
  · obtain ⟨xs, z'⟩ := h.zB a z
    rw [q, nB] at z'; cases z'
  · by_cases ej : i = j
    · subst ej
      rw [List.getElem?_set_self hi] at b
      rw [hp] at a
      cases a; cases b
      exact ⟨.ref p, rfl, .lst (by rw [cut_of (fun q => q.2 rfl)]; exact hv) (ha.up sub)⟩
    · rw [List.getElem?_set_ne ej] at b
      have f : Ex H H := Ex.refl H
      exact (h.slot j x sd a b).up sub f
  · by_cases ej : i = j
    · subst ej
      rw [List.getElem?_set_self hi] at a
      cases a
    · rw [List.getElem?_set_ne ej] at a
      obtain ⟨m', z⟩ := h.mm j q us a b
      exact ⟨⟨m', fun z => ej (h.inj i j p ys us e a hp (by rw [b, z]))⟩, z⟩
  · have f : ∀ (j : Nat) (ws : List PyData), (ss.set i (.d (.list ys)))[j]? = some (.m ws) → ss[j]? = some (.m ws) := fun j ws b => by
      by_cases ej : i = j
      · subst ej; rw [List.getElem?_set_self hi] at b; cases b
      · rw [List.getElem?_set_ne ej] at b; exact b
    exact h.inj j k q us ws (f j us a) (f k ws b) c d
/-- the base grows: what is fixed by now -/
theorem Held.rebase (h : Held K B Z M σ H ss) : ∃ B1, Ex B B1 ∧ Ex (cut M H) B1 ∧ Held K B1 Z M σ H ss := by
  refine ⟨cut (fun a => M a ∧ ¬ Z a) H, fun a o e => ?_, cut_less fun a q => q.1, cut_full, h.zM, fun a m => ?_, h.mH, fun a z => ?_, h.len, h.slot, fun i p ys a b => ?_, h.inj⟩
  · have n : ¬ (M a ∧ ¬ Z a) := fun ⟨m, z⟩ => by
      rcases h.mB a m with q | q
      · exact z q
      · rw [q] at e; cases e
    rw [cut_of n]
    exact h.ex a o e
  · by_cases z : Z a
    · exact .inl z
    · exact .inr (cut_on ⟨m, z⟩)
  · obtain ⟨xs, e⟩ := h.zB a z
    exact ⟨xs, by rw [cut_of fun q => q.2 z]; exact h.ex a _ e⟩
  · obtain ⟨m, nB⟩ := h.mm i p ys a b
    refine ⟨m, cut_on ⟨m, fun z => ?_⟩⟩
    obtain ⟨xs, e⟩ := h.zB p z
    rw [nB] at e; cases e
theorem Held.unbase {B1 : Hp} (h : Held K B1 Z M σ H ss) (e : Ex B B1) (hz : ∀ a, Z a → ∃ xs, B a = some (.lst xs)) : Held K B Z M σ H ss :=
  ⟨e.trans h.ex, h.zM, fun a m => (h.mB a m).imp id fun q => Evl.fresh_back e q, h.mH, hz, h.len, h.slot, fun i p ys a b => let ⟨m, q⟩ := h.mm i p ys a b; ⟨m, Evl.fresh_back e q⟩, h.inj⟩
end
end Hk
end
section
set_option Elab.async false
set_option linter.all false
set_option maxRecDepth 100000
set_option maxHeartbeats 2000000
namespace Hk
open PySem PySem.Spec PyProof.Rows L2
open Evl (Ex)

/-! ### canonical readings -/
section
variable {X : Cx}
def cE (X : Cx) (e : Expr) : TE := fun σ H Q => ∃ t, PE X e t ∧ t σ H Q
theorem cE_ok {e : Expr} : PE X e (cE X e) := ⟨fun pins s σ H Q I ⟨t, h, q⟩ => h.run pins s σ H Q I q⟩
def cT (X : Cx) (e : Expr) : TT := fun σ H Q => ∃ t, PT X e t ∧ t σ H Q
theorem cT_ok {e : Expr} : PT X e (cT X e) := ⟨fun pins s σ H Q I ⟨t, h, q⟩ => h.run pins s σ H Q I q⟩
def cW (X : Cx) (e : Expr) : TT := fun σ H Q => ∃ t, PW X e t ∧ t σ H Q
theorem cW_ok {e : Expr} : PW X e (cW X e) := ⟨fun wh pins s σ H Q I ⟨t, h, q⟩ => h.run wh pins s σ H Q I q⟩
def cA (X : Cx) (es : List Expr) : TA := fun σ H Q => ∃ t, PA X es t ∧ t σ H Q
theorem cA_ok {es : List Expr} : PA X es (cA X es) := ⟨fun pos pins s σ H Q I ⟨t, h, q⟩ => h.run pos pins s σ H Q I q⟩
def cO (X : Cx) (e : Option Expr) : TO := fun σ H Q => ∃ t, PO X e t ∧ t σ H Q
theorem cO_ok {e : Option Expr} : PO X e (cO X e) := ⟨fun pins s σ H Q I ⟨t, h, q⟩ => h.run pins s σ H Q I q⟩
end

/-! ### judgements on data -/
section
variable (X : Cx) (B : Hp) (ss : List SD)
def DE (e : Expr) (d : PyData) : Prop := ∀ Z M σ H, Held X.K B Z M σ H ss → ∀ Q : VK, (∀ v H', Ex H H' → Is X.K (cut M H') v d → Q v H') → cE X e σ H Q
def DT (e : Expr) (b : Bool) : Prop := ∀ Z M σ H, Held X.K B Z M σ H ss → ∀ Q : Bool → Hp → Prop, (∀ H', Ex H H' → Q b H') → cT X e σ H Q
def DW (e : Expr) (b : Bool) : Prop := ∀ Z M σ H, Held X.K B Z M σ H ss → ∀ Q : Bool → Hp → Prop, (∀ H', Ex H H' → Q b H') → cW X e σ H Q
def DA (es : List Expr) (ds : List PyData) : Prop := ∀ Z M σ H, Held X.K B Z M σ H ss → ∀ Q : List V → Hp → Prop, (∀ vs H', Ex H H' → IsAll X.K (cut M H') vs ds → Q vs H') → cA X es σ H Q
def DL (e : Expr) (ds : List PyData) : Prop := ∀ Z M σ H, Held X.K B Z M σ H ss → ∀ Q : VK,
  (∀ p vs H', H p = none → Ex H H' → H' p = some (.lst vs) → IsAll X.K (cut (fun a => M a ∨ a = p) H') vs ds → Q (.ref p) H') → cE X e σ H Q
def DO (e : Option Expr) (o : Option Int) : Prop := ∀ Z M σ H, Held X.K B Z M σ H ss → ∀ Q : Option Int → Hp → Prop, (∀ H', Ex H H' → Q o H') → cO X e σ H Q
end

section
variable {X : Cx} {B : Hp} {ss : List SD} {e a b : Expr} {es : List Expr} {d x y z : PyData} {ds xs ys : List PyData} {pos : Pos}

theorem Is.intv {K : PySem.W.Frag} {H : Hp} {v : V} {i : Int} (h : Is K H v (.int i)) : v = .int i := by cases h; rfl
theorem Is.blv {K : PySem.W.Frag} {H : Hp} {v : V} {i : Bool} (h : Is K H v (.bool i)) : v = .bl i := by cases h; rfl
theorem Is.strv {K : PySem.W.Frag} {H : Hp} {v : V} {i : Str} (h : Is K H v (.str i)) : v = .str i := by cases h; rfl
theorem Is.nonv {K : PySem.W.Frag} {H : Hp} {v : V} (h : Is K H v .none) : v = .non := by cases h; rfl

theorem de_is (h : DE X B ss e x) (q : x = y) : DE X B ss e y := q ▸ h
theorem dt_is {b c : Bool} (h : DT X B ss e b) (q : b = c) : DT X B ss e c := q ▸ h
theorem de_dl (h : DL X B ss e ds) : DE X B ss e (.list ds) := by
  intro Z M σ H hh Q k
  refine h Z M σ H hh Q fun p vs H' n ex hp ha => k (.ref p) H' ex ?_
  obtain ⟨nM, _⟩ := hh.new n
  exact .lst (by rw [cut_of nM]; exact hp) (ha.up (cut_less fun a q => .inl q))
theorem de_val {v : V} {d : PyData} (pe : PE X e (tC v)) (r : ∀ H : Hp, Is X.K H v d) : DE X B ss e d := fun Z M σ H _ Q k => ⟨_, pe, k v H (Ex.refl H) (r _)⟩
theorem de_int {i : Int} {j : Nat} : DE X B ss (.Constant (.int i) j pos) (.int i) := de_val pe_int fun _ => .int i
theorem de_str {i : Str} {j : Nat} : DE X B ss (.Constant (.str i) j pos) (.str i) := de_val pe_str fun _ => .str i
theorem de_bl {i : Bool} {j : Nat} : DE X B ss (.Constant (.bool i) j pos) (.bool i) := de_val pe_bl fun _ => .bl i
theorem de_non {j : Nat} : DE X B ss (.Constant .none j pos) .none := de_val pe_non fun _ => .non
theorem de_var {x : Str} (i : Nat) (h : ss[i]? = some (.d d)) (hN : X.N[i]? = some x := by rfl) (hv : Vis X.env.scope x := by first | exact Or.inl rfl | exact Or.inr (Or.inl rfl) | exact Or.inr (Or.inr rfl))
    (hd : (x == ("__debug__" : Str)) = false := by decide) (hcd : (x == ("__classdict__" : Str)) = false := by decide) : DE X B ss (.Name x pos) d := fun Z M σ H hh Q k => by
  obtain ⟨v, q, r⟩ := hh.getD h
  exact ⟨_, pe_var hN hv hd hcd, v, q, k v H (Ex.refl H) r⟩
theorem de_glob {x : Str} {v : V} {u : Value} (hm : X.mg x = some u) (r : RelV v u) (q : ∀ H : Hp, Is X.K H v d) (hg : Gl X x := by rfl) (hd : (x == ("__debug__" : Str)) = false := by decide) : DE X B ss (.Name x pos) d :=
  de_val (pe_glob hg hm r hd) q

/-! ### arguments, displays -/
theorem da_nil : DA X B ss [] [] := fun Z M σ H _ Q k => ⟨_, pa_nil, k [] H (Ex.refl H) .nil⟩
theorem da_cons (he : DE X B ss e d) (hr : DA X B ss es ds) (hs : starEach (e :: es) X.env = (false, eval e X.env) :: starEach es X.env := by rfl) : DA X B ss (e :: es) (d :: ds) := fun Z M σ H hh Q k =>
  ⟨_, pa_cons (te := cE X e) (t := cA X es) cE_ok cA_ok hs, he Z M σ H hh _ fun v H1 e1 r1 => hr Z M σ H1 (hh.step e1) _ fun vs H2 e2 r2 => k (v :: vs) H2 (e1.trans e2) (.cons (r1.up (cut_ex e2)) r2)⟩
theorem de_tup {x1 : Nat} (h : DA X B ss es ds) (hl : ds.length ≤ sizeLine := by exact Evl.sz_of (Nat.le_of_ble_eq_true rfl)) : DE X B ss (.Tuple es x1 pos) (.tuple ds) := fun Z M σ H hh Q k =>
  ⟨_, pe_tup (t := cA X es) cA_ok, h Z M σ H hh _ fun vs H1 e1 r1 => ⟨by rw [r1.len]; exact hl, fun p hp => k (.ref p) _ (e1.trans (Ex.new hp)) (by
    obtain ⟨nM, _⟩ := (hh.step e1).new hp
    refine .tup (SqT.of (by rw [cut_of nM]; exact upd_same)) (r1.up (cut_ex (Ex.new hp))))⟩⟩
theorem ex_hide {M : Addr → Prop} {H : Hp} {p : Addr} {o : HO} (n : H p = none) : Ex (cut M H) (cut (fun a => M a ∨ a = p) (upd H p o)) := fun b u q => by
  by_cases m : M b
  · rw [cut_on m] at q; cases q
  · rw [cut_of m] at q
    have nb : b ≠ p := fun z => by subst z; rw [n] at q; cases q
    rw [cut_of (by rintro (z | z); exact m z; exact nb z), upd_ne nb]
    exact q
theorem dl_lst (h : DA X B ss es ds) (hl : ds.length ≤ sizeLine := by exact Evl.sz_of (Nat.le_of_ble_eq_true rfl)) : DL X B ss (.List es pos) ds := fun Z M σ H hh Q k =>
  ⟨_, pe_lst (t := cA X es) cA_ok, h Z M σ H hh _ fun vs H1 e1 r1 => ⟨by rw [r1.len]; exact hl, fun p hp => k p vs _ (Evl.fresh_back e1 hp) (e1.trans (Ex.new hp)) upd_same (r1.up (ex_hide hp))⟩⟩

/-! ### operators -/
theorem de_bin {op : Operator} {r : R2} (ho : OpR X (binaryOp op) r) (ha : DE X B ss a x) (hb : DE X B ss b y)
    (hr : ∀ Z M σ H v w Q, Held X.K B Z M σ H ss → Is X.K (cut M H) v x → Is X.K (cut M H) w y → (∀ u H', Ex H H' → Is X.K (cut M H') u z → Q u H') → r v w H Q) : DE X B ss (.BinOp a op b pos) z := fun Z M σ H hh Q k =>
  ⟨_, pe_op (ta := cE X a) (tb := cE X b) ho cE_ok cE_ok, ha Z M σ H hh _ fun v H1 e1 r1 => hb Z M σ H1 (hh.step e1) _ fun w H2 e2 r2 =>
    hr Z M σ H2 v w Q ((hh.step e1).step e2) (r1.up (cut_ex e2)) r2 fun u H3 e3 r3 => k u H3 ((e1.trans e2).trans e3) r3⟩
theorem de_opI {op : Operator} {C : Int → Int → Prop} {g : Int → Int → V} {f : Int → Int → PyData} {i j : Int} (ho : OpR X (binaryOp op) (rI C g)) (hg : ∀ i j (H : Hp), Is X.K H (g i j) (f i j)) (ha : DE X B ss a (.int i)) (hb : DE X B ss b (.int j)) (hc : C i j) :
    DE X B ss (.BinOp a op b pos) (f i j) := de_bin ho ha hb fun Z M σ H v w Q _ rv rw' k => by
  cases rv.intv; cases rw'.intv
  exact ⟨i, j, rfl, rfl, hc, k _ H (Ex.refl H) (hg i j _)⟩
theorem de_opI0 {op : Operator} {g : Int → Int → V} {f : Int → Int → PyData} {i j : Int} (ho : OpR X (binaryOp op) (rI0 g)) (hg : ∀ i j (H : Hp), Is X.K H (g i j) (f i j)) (ha : DE X B ss a (.int i)) (hb : DE X B ss b (.int j)) :
    DE X B ss (.BinOp a op b pos) (f i j) := de_bin ho ha hb fun Z M σ H v w Q _ rv rw' k => by
  cases rv.intv; cases rw'.intv
  exact ⟨i, j, rfl, rfl, k _ H (Ex.refl H) (hg i j _)⟩
theorem de_add {i j : Int} (ha : DE X B ss a (.int i)) (hb : DE X B ss b (.int j)) : DE X B ss (.BinOp a .Add b pos) (.int (i + j)) := de_opI0 (f := fun i j => .int (i + j)) op_add (fun i j H => .int _) ha hb
theorem de_sub {i j : Int} (ha : DE X B ss a (.int i)) (hb : DE X B ss b (.int j)) : DE X B ss (.BinOp a .Sub b pos) (.int (i - j)) := de_opI0 (f := fun i j => .int (i - j)) op_sub (fun i j H => .int _) ha hb
theorem de_mul {i j : Int} (ha : DE X B ss a (.int i)) (hb : DE X B ss b (.int j)) (hc : CMulW i j) : DE X B ss (.BinOp a .Mult b pos) (.int (i * j)) := de_opI (f := fun i j => .int (i * j)) op_mulW (fun i j H => .int _) ha hb hc
theorem de_mul64 {i j : Int} (ha : DE X B ss a (.int i)) (hb : DE X B ss b (.int j)) (hc : CMul i j) : DE X B ss (.BinOp a .Mult b pos) (.int (i * j)) := de_opI (f := fun i j => .int (i * j)) op_mul (fun i j H => .int _) ha hb hc
theorem de_mod {i j : Int} (ha : DE X B ss a (.int i)) (hb : DE X B ss b (.int j)) (hc : 0 < j) : DE X B ss (.BinOp a .Mod b pos) (.int (i % j)) := de_opI (C := fun _ j => 0 < j) (f := fun i j => .int (i % j)) op_mod (fun i j H => .int _) ha hb hc
theorem de_fdivW {i j : Int} (ha : DE X B ss a (.int i)) (hb : DE X B ss b (.int j)) (hc : CDivW i j) : DE X B ss (.BinOp a .FloorDiv b pos) (.int (i / j)) := de_opI (f := fun i j => .int (i / j)) op_fdivW (fun i j H => .int _) ha hb hc
theorem de_fdiv {i j : Int} (ha : DE X B ss a (.int i)) (hb : DE X B ss b (.int j)) (hc : CDiv i j) : DE X B ss (.BinOp a .FloorDiv b pos) (.int (i / j)) := de_opI (f := fun i j => .int (i / j)) op_fdiv (fun i j H => .int _) ha hb hc
theorem de_neg {i : Int} (ha : DE X B ss a (.int i)) : DE X B ss (.UnaryOp .USub a pos) (.int (-i)) := fun Z M σ H hh Q k =>
  ⟨_, pe_un (ta := cE X a) un_neg cE_ok, ha Z M σ H hh _ fun v H1 e1 r1 => ⟨i, r1.intv, k _ H1 e1 (.int _)⟩⟩
theorem de_adds {i j : Str} (ha : DE X B ss a (.str i)) (hb : DE X B ss b (.str j)) (hl : i.length + j.length ≤ sizeLine) : DE X B ss (.BinOp a .Add b pos) (.str (i ++ j)) := de_bin op_add_str ha hb fun Z M σ H v w Q _ rv rw' k => by
  cases rv.strv; cases rw'.strv
  exact ⟨i, j, rfl, rfl, hl, k _ H (Ex.refl H) (.str _)⟩
/-- xs + ys: a new list -/
theorem dl_cat (ha : DE X B ss a (.list xs)) (hb : DE X B ss b (.list ys)) (hl : xs.length + ys.length ≤ sizeLine) : DL X B ss (.BinOp a .Add b pos) (xs ++ ys) := fun Z M σ H hh Q k =>
  ⟨_, pe_op (ta := cE X a) (tb := cE X b) op_cat cE_ok cE_ok, ha Z M σ H hh _ fun v H1 e1 r1 => hb Z M σ H1 (hh.step e1) _ fun w H2 e2 r2 => by
    cases r1 with
    | lst h1 t1 =>
      cases r2 with
      | lst h2 t2 =>
        refine ⟨_, _, _, _, rfl, rfl, e2 _ _ (cut_full _ _ h1), cut_full _ _ h2, by rw [t1.len, t2.len]; exact hl, fun p hp => k p _ _ (Evl.fresh_back (e1.trans e2) hp) ((e1.trans e2).trans (Ex.new hp)) upd_same ?_⟩
        exact ((t1.up (cut_ex e2)).app t2).up (ex_hide hp)⟩
/-! ### items -/
theorem atI_len {α β : Type} {xs : List α} {ys : List β} {i : Int} {y : β} (hl : xs.length = ys.length) (h : atI ys i = some y) : ∃ j : Nat, ys[j]? = some y ∧ ∀ x, xs[j]? = some x → atI xs i = some x := by
  unfold atI at h
  cases e : ixN ys.length i with
  | none => rw [e] at h; cases h
  | some j =>
    rw [e] at h
    refine ⟨j, h, fun x hx => ?_⟩
    unfold atI
    rw [hl, e]
    exact hx
theorem de_ixT {i : Int} (ha : DE X B ss a (.tuple xs)) (hb : DE X B ss b (.int i)) (h : atI xs i = some d) (hs : PlainIx b := by exact fun _ _ => rfl) : DE X B ss (.Subscript a b pos) d := fun Z M σ H hh Q k =>
  ⟨_, pe_ix (ta := cE X a) (tb := cE X b) ix_tup cE_ok cE_ok hs, ha Z M σ H hh _ fun v H1 e1 r1 => hb Z M σ H1 (hh.step e1) _ fun w H2 e2 r2 => by
    cases r2.intv
    cases r1 with
    | tup h1 t1 =>
      obtain ⟨j, hj, q⟩ := atI_len t1.len h
      obtain ⟨u, hu, ru⟩ := t1.get hj
      exact ⟨_, _, i, u, rfl, rfl, Evl.ex_t (cut_full.trans e2) h1, q u hu, k u H2 (e1.trans e2) (ru.up (cut_ex e2))⟩⟩
theorem de_ixL {i : Int} (ha : DE X B ss a (.list xs)) (hb : DE X B ss b (.int i)) (h : atI xs i = some d) (hs : PlainIx b := by exact fun _ _ => rfl) : DE X B ss (.Subscript a b pos) d := fun Z M σ H hh Q k =>
  ⟨_, pe_ix (ta := cE X a) (tb := cE X b) ix_list cE_ok cE_ok hs, ha Z M σ H hh _ fun v H1 e1 r1 => hb Z M σ H1 (hh.step e1) _ fun w H2 e2 r2 => by
    cases r2.intv
    cases r1 with
    | lst h1 t1 =>
      obtain ⟨j, hj, q⟩ := atI_len t1.len h
      obtain ⟨u, hu, ru⟩ := t1.get hj
      exact ⟨_, _, i, u, rfl, rfl, SqL.of (e2 _ _ (cut_full _ _ h1)), q u hu, k u H2 (e1.trans e2) (ru.up (cut_ex e2))⟩⟩
/-- an item of a list of one's own -/
theorem de_ixM {x : Str} {i : Int} {px : Pos} (s : Nat) (hm : ss[s]? = some (.m xs)) (hb : DE X B ss b (.int i)) (h : atI xs i = some d) (hN : X.N[s]? = some x := by rfl)
    (hv : Vis X.env.scope x := by first | exact Or.inl rfl | exact Or.inr (Or.inl rfl) | exact Or.inr (Or.inr rfl)) (hs : PlainIx b := by exact fun _ _ => rfl)
    (hd : (x == ("__debug__" : Str)) = false := by decide) (hcd : (x == ("__classdict__" : Str)) = false := by decide) : DE X B ss (.Subscript (.Name x px) b pos) d := fun Z M σ H hh Q k => by
  obtain ⟨p, vs, hp, hl, ha, m, _⟩ := hh.getM hm
  refine ⟨_, pe_ix (tb := cE X b) ix_list (pe_var hN hv hd hcd) cE_ok hs, .ref p, hp, hb Z M σ H hh _ fun w H2 e2 r2 => ?_⟩
  cases r2.intv
  obtain ⟨j, hj, q⟩ := atI_len ha.len h
  obtain ⟨u, hu, ru⟩ := ha.get hj
  exact ⟨p, vs, i, u, rfl, rfl, SqL.of (e2 _ _ hl), q u hu, k u H2 e2 (ru.up (cut_ex e2))⟩
theorem de_ixS {i : Int} {w : Str} {c : Nat} (ha : DE X B ss a (.str w)) (hb : DE X B ss b (.int i)) (hl : w.length ≤ sizeLine) (h : atI w.cps.toList i = some c) (hs : PlainIx b := by exact fun _ _ => rfl) : DE X B ss (.Subscript a b pos) (.str ⟨#[c]⟩) := fun Z M σ H hh Q k =>
  ⟨_, pe_ix (ta := cE X a) (tb := cE X b) ix_str cE_ok cE_ok hs, ha Z M σ H hh _ fun v H1 e1 r1 => hb Z M σ H1 (hh.step e1) _ fun w' H2 e2 r2 => by
    cases r2.intv; cases r1.strv
    exact ⟨w, i, c, rfl, rfl, hl, h, k _ H2 (e1.trans e2) (.str _)⟩⟩
/-! ### slices -/
theorem do_none : DO X B ss none none := fun Z M σ H _ Q k => ⟨_, po_none, k H (Ex.refl H)⟩
theorem do_some {i : Int} (h : DE X B ss e (.int i)) : DO X B ss (some e) (some i) := fun Z M σ H hh Q k =>
  ⟨_, po_some (te := cE X e) cE_ok, h Z M σ H hh _ fun v H1 e1 r1 => ⟨i, r1.intv, k H1 e1⟩⟩
def cutD (xs : List PyData) (lo hi : Option Int) : List PyData := (xs.drop (HT.sIx xs.length 0 lo)).take (HT.sIx xs.length xs.length hi - HT.sIx xs.length 0 lo)
theorem IsAll.cut {K : PySem.W.Frag} {H : Hp} {vs : List V} (h : IsAll K H vs xs) (lo hi : Option Int) : IsAll K H (cutV vs lo hi) (cutD xs lo hi) := by
  unfold cutV cutD
  rw [h.len]
  exact (h.drop _).take _
theorem dl_slice {lo hi : Option Expr} {i j : Option Int} {p2 : Pos} (ha : DE X B ss a (.list xs)) (hl : DO X B ss lo i) (hu : DO X B ss hi j) : DL X B ss (.Subscript a (.Slice lo hi none p2) pos) (cutD xs i j) := fun Z M σ H hh Q k =>
  ⟨_, pe_slice (te := cE X a) (tl := cO X lo) (th := cO X hi) sl_list cE_ok cO_ok cO_ok, ha Z M σ H hh _ fun v H1 e1 r1 => hl Z M σ H1 (hh.step e1) _ fun H2 e2 => hu Z M σ H2 ((hh.step e1).step e2) _ fun H3 e3 => by
    cases r1 with
    | lst h1 t1 =>
      refine ⟨_, _, rfl, SqL.of ((e2.trans e3) _ _ (cut_full _ _ h1)), fun p hp => k p _ _ (Evl.fresh_back ((e1.trans e2).trans e3) hp) (((e1.trans e2).trans e3).trans (Ex.new hp)) upd_same ?_⟩
      exact ((t1.cut i j).up (cut_ex (e2.trans e3))).up (ex_hide hp)⟩
theorem dl_rev {k1 : Nat} {p1 p2 p3 : Pos} (ha : DE X B ss a (.list xs)) : DL X B ss (.Subscript a (.Slice none none (some (.UnaryOp .USub (.Constant (.int 1) k1 p1) p2)) p3) pos) xs.reverse := fun Z M σ H hh Q k =>
  ⟨_, pe_revL (te := cE X a) cE_ok, ha Z M σ H hh _ fun v H1 e1 r1 => by
    cases r1 with
    | lst h1 t1 =>
      refine ⟨_, _, rfl, SqL.of (cut_full _ _ h1), fun p hp => k p _ _ (Evl.fresh_back e1 hp) (e1.trans (Ex.new hp)) upd_same ?_⟩
      exact t1.rev.up (ex_hide hp)⟩
theorem de_sliceS {lo hi : Option Expr} {i j : Option Int} {p2 : Pos} {w : Str} (ha : DE X B ss a (.str w)) (hl : DO X B ss lo i) (hu : DO X B ss hi j) (hw : w.length ≤ sizeLine) : DE X B ss (.Subscript a (.Slice lo hi none p2) pos) (.str (cutS w i j)) := fun Z M σ H hh Q k =>
  ⟨_, pe_slice (te := cE X a) (tl := cO X lo) (th := cO X hi) sl_str cE_ok cO_ok cO_ok, ha Z M σ H hh _ fun v H1 e1 r1 => hl Z M σ H1 (hh.step e1) _ fun H2 e2 => hu Z M σ H2 ((hh.step e1).step e2) _ fun H3 e3 => by
    cases r1.strv
    exact ⟨w, rfl, hw, k _ H3 ((e1.trans e2).trans e3) (.str _)⟩⟩

/-! ### calls -/
/-- the promise of a def on data -/
def spD (K : PySem.W.Frag) (n : Nat) (R : List PyData → PyData → Prop) : Sp := fun vs H Q _ => ∃ M ds d, IsAll K (cut M H) vs ds ∧ ds.length = n ∧ (∀ a, M a → ∃ xs, H a = some (.lst xs)) ∧ R ds d ∧ ∀ v H', Ex H H' → Is K (cut M H') v d → Q v H'
structure FnIs (P : Program) (w : World) (K : PySem.W.Frag) (mg : Str → Option Value) (base : Heap) (x : Str) (ps : List Str) (k : Nat) (R : List PyData → PyData → Prop) : Prop where
  ex : ∃ f fd, FnOk P w K mg base CX0 k f fd ps (spD K ps.length R) ∧ mg x = some (.ref f) ∧ PySem.W.keepIn K (.ref f) = true ∧ Binds K fd ps []
theorem de_call {x : Str} {p : Pos} {ps : List Str} {k : Nat} {R : List PyData → PyData → Prop} (G : FnIs X.prog X.w X.K X.mg X.base x ps k R) (hr : Room k X.A) (ha : DA X B ss (e :: es) ds) (hR : R ds d) (hlen : ds.length = ps.length := by rfl) (hg : Gl X x := by rfl)
    (hdb : (x == ("__debug__" : Str)) = false := by decide) (he : starEach (e :: es) X.env = (false, eval e X.env) :: starEach es X.env := by rfl) (hpl : (backTo pos (starEach es X.env)).any (·.1) = false := by rfl) : DE X B ss (.Call (.Name x p) (e :: es) [] pos) d := fun Z M σ H hh Q kk => by
  obtain ⟨f, fd, F, hm, hk, hb⟩ := G.ex
  refine ⟨_, pe_call (t := cA X (e :: es)) F hr hg hm hk hb .nil pass0 cA_ok hdb he hpl, ha Z M σ H hh _ fun vs H1 e1 r1 => ?_⟩
  exact ⟨M, ds, d, by rw [List.append_nil]; exact r1, hlen, (hh.step e1).mH, hR, fun v H' e2 r2 => kk v H' (e1.trans e2) r2⟩
/-- a built-in function, a built-in class -/
theorem de_callB {x : Str} {p : Pos} {id : String} {r : List V → Hp → VK → Prop} (hc : CallR X (.builtin id) r) (hm : X.mg x = none) (hv : bootBuiltins x = some (.builtin id)) (ha : DA X B ss (e :: es) ds)
    (hr : ∀ Z M σ H vs Q, Held X.K B Z M σ H ss → IsAll X.K (cut M H) vs ds → (∀ u H', Ex H H' → Is X.K (cut M H') u d → Q u H') → r vs H Q) (hg : Gl X x := by rfl) (hn : x ≠ "__name__" := by decide) (hdb : (x == ("__debug__" : Str)) = false := by decide)
    (he : starEach (e :: es) X.env = (false, eval e X.env) :: starEach es X.env := by rfl) (hpl : (backTo pos (starEach es X.env)).any (·.1) = false := by rfl) : DE X B ss (.Call (.Name x p) (e :: es) [] pos) d := fun Z M σ H hh Q k =>
  ⟨_, pe_callB (t := cA X (e :: es)) hc hg hm hv cA_ok hn hdb he hpl, ha Z M σ H hh _ fun vs H1 e1 r1 => hr Z M σ H1 vs Q (hh.step e1) r1 fun u H2 e2 r2 => k u H2 (e1.trans e2) r2⟩
theorem de_callTy {x : Str} {p : Pos} {T : String} {r : List V → Hp → VK → Prop} (hc : CallR X (.type T) r) (hm : X.mg x = none) (hv : bootBuiltins x = some (.type T)) (ha : DA X B ss (e :: es) ds)
    (hr : ∀ Z M σ H vs Q, Held X.K B Z M σ H ss → IsAll X.K (cut M H) vs ds → (∀ u H', Ex H H' → Is X.K (cut M H') u d → Q u H') → r vs H Q) (hg : Gl X x := by rfl) (hn : x ≠ "__name__" := by decide) (hdb : (x == ("__debug__" : Str)) = false := by decide)
    (he : starEach (e :: es) X.env = (false, eval e X.env) :: starEach es X.env := by rfl) (hpl : (backTo pos (starEach es X.env)).any (·.1) = false := by rfl) : DE X B ss (.Call (.Name x p) (e :: es) [] pos) d := fun Z M σ H hh Q k =>
  ⟨_, pe_callTy (t := cA X (e :: es)) hc hg hm hv cA_ok hn hdb he hpl, ha Z M σ H hh _ fun vs H1 e1 r1 => hr Z M σ H1 vs Q (hh.step e1) r1 fun u H2 e2 r2 => k u H2 (e1.trans e2) r2⟩
theorem isAll1 {K : PySem.W.Frag} {H : Hp} {vs : List V} (h : IsAll K H vs [x]) : ∃ v, vs = [v] ∧ Is K H v x := by
  cases h with
  | cons h1 h2 => cases h2; exact ⟨_, rfl, h1⟩
theorem isAll2 {K : PySem.W.Frag} {H : Hp} {vs : List V} (h : IsAll K H vs [x, y]) : ∃ v w, vs = [v, w] ∧ Is K H v x ∧ Is K H w y := by
  cases h with
  | cons h1 h2 =>
    obtain ⟨w, rfl, h3⟩ := isAll1 h2
    exact ⟨_, _, rfl, h1, h3⟩
theorem de_lenL {p q : Pos} (hm : X.mg "len" = none) (ha : DE X B ss a (.list xs)) (hg : Gl X "len" := by rfl) (he : starEach [a] X.env = (false, eval a X.env) :: starEach [] X.env := by rfl) (hpl : (backTo q (starEach [] X.env)).any (·.1) = false := by rfl) :
    DE X B ss (.Call (.Name "len" p) [a] [] q) (.int xs.length) :=
  de_callB call_len_seq hm PySem.boot_len (da_cons ha da_nil he) (fun Z M σ H vs Q hh r k => by
    obtain ⟨v, rfl, r1⟩ := isAll1 r
    cases r1 with
    | lst h1 t1 => exact ⟨_, _, rfl, .inl (SqL.of (cut_full _ _ h1)), by rw [t1.len]; exact k _ H (Ex.refl H) (.int _)⟩) hg (by decide) (by decide) he hpl
theorem de_lenT {p q : Pos} (hm : X.mg "len" = none) (ha : DE X B ss a (.tuple xs)) (hg : Gl X "len" := by rfl) (he : starEach [a] X.env = (false, eval a X.env) :: starEach [] X.env := by rfl) (hpl : (backTo q (starEach [] X.env)).any (·.1) = false := by rfl) :
    DE X B ss (.Call (.Name "len" p) [a] [] q) (.int xs.length) :=
  de_callB call_len_seq hm PySem.boot_len (da_cons ha da_nil he) (fun Z M σ H vs Q hh r k => by
    obtain ⟨v, rfl, r1⟩ := isAll1 r
    cases r1 with
    | tup h1 t1 => exact ⟨_, _, rfl, .inr (Evl.ex_t cut_full h1), by rw [t1.len]; exact k _ H (Ex.refl H) (.int _)⟩) hg (by decide) (by decide) he hpl
theorem de_lenM {x : Str} {p q px : Pos} (s : Nat) (hs : ss[s]? = some (.m xs)) (hm : X.mg "len" = none) (hg : Gl X "len" := by rfl) (hN : X.N[s]? = some x := by rfl)
    (hv : Vis X.env.scope x := by first | exact Or.inl rfl | exact Or.inr (Or.inl rfl) | exact Or.inr (Or.inr rfl)) (hd : (x == ("__debug__" : Str)) = false := by decide) (hcd : (x == ("__classdict__" : Str)) = false := by decide)
    (he : starEach [.Name x px] X.env = (false, eval (.Name x px) X.env) :: starEach [] X.env := by rfl) (hpl : (backTo q (starEach [] X.env)).any (·.1) = false := by rfl) :
    DE X B ss (.Call (.Name "len" p) [.Name x px] [] q) (.int xs.length) := fun Z M σ H hh Q k => by
  obtain ⟨pp, vs, hp, hl, ha, m, _⟩ := hh.getM hs
  refine ⟨_, pe_callB call_len_seq hg hm PySem.boot_len (pa_cons (pe_var hN hv hd hcd) pa_nil he) (by decide) (by decide) he hpl, .ref pp, hp, pp, vs, rfl, .inl (SqL.of hl), ?_⟩
  rw [ha.len]
  exact k _ H (Ex.refl H) (.int _)
/-! ### whatever changes no more for a while -/
theorem de_frz {i : Nat} (h : ss[i]? = some (.m xs)) (f : flatD d = true) (he : DE X B (ss.set i (.d (.list xs))) e d) : DE X B ss e d := fun Z M σ H hh Q k => by
  obtain ⟨M', sub, hh'⟩ := hh.frz h
  exact he Z M' σ H hh' Q fun v H' e1 r1 => k v H' e1 (Is.flat (hh.step e1).mH d v f (r1.up cut_full))
end
end Hk
end
section
set_option Elab.async false
set_option linter.all false
set_option maxRecDepth 100000
set_option maxHeartbeats 2000000
namespace Hk
open PySem PySem.Spec PyProof.Rows L2
open Evl (Ex)

section
variable {X : Cx} {B : Hp} {ss : List SD} {e a b : Expr} {es rest : List Expr} {d x y z : PyData} {ds xs ys : List PyData} {pos : Pos}
/-! ### tests -/
theorem dt_val {c : Bool} (h : DE X B ss e (.bool c)) (he : ∀ whole, isTrue e X.env whole = (do let v ← whole; standAt e.pos; holding [v] (truthy v)) := by intro _; rfl) : DT X B ss e c := fun Z M σ H hh Q k =>
  ⟨_, pt_val (t := cE X e) cE_ok he, h Z M σ H hh _ fun v H1 e1 r1 => ⟨c, r1.blv, k H1 e1⟩⟩
theorem dt_list (h : DE X B ss e (.list xs)) (he : ∀ whole, isTrue e X.env whole = (do let v ← whole; standAt e.pos; holding [v] (truthy v)) := by intro _; rfl) : DT X B ss e (!xs.isEmpty) := fun Z M σ H hh Q k =>
  ⟨_, pt_truth (ta := cE X e) cE_ok he, h Z M σ H hh _ fun v H1 e1 r1 => by
    cases r1 with
    | lst h1 t1 =>
      refine ⟨!xs.isEmpty, ?_, k H1 e1⟩
      refine .inl ⟨_, SqL.of (cut_full _ _ h1), ?_⟩
      have l := t1.len
      cases xs with
      | nil =>
        have e0 := List.length_eq_zero_iff.mp (show _ = 0 from l)
        rw [e0]
        rfl
      | cons x xs =>
        rename_i vs
        cases vs with
        | nil => cases l
        | cons _ _ => rfl⟩
theorem dt_not {c : Bool} (h : DT X B ss e c) : DT X B ss (.UnaryOp .Not e pos) (!c) := fun Z M σ H hh Q k =>
  ⟨_, pt_not (tA := cT X e) cT_ok, h Z M σ H hh _ fun H1 e1 => k H1 e1⟩
theorem dt_w {c : Bool} (h : DW X B ss e c) : DT X B ss e c := fun Z M σ H hh Q k => ⟨_, (cW_ok (X := X) (e := e)).pt, h Z M σ H hh Q k⟩
theorem dw_and1 {c : Bool} (h : DT X B ss a c) : DW X B ss (.BoolOp .And [a] pos) c := fun Z M σ H hh Q k => ⟨_, pw_and1 (tA := cT X a) cT_ok, h Z M σ H hh Q k⟩
theorem dw_or1 {c : Bool} (h : DT X B ss a c) : DW X B ss (.BoolOp .Or [a] pos) c := fun Z M σ H hh Q k => ⟨_, pw_or1 (tA := cT X a) cT_ok, h Z M σ H hh Q k⟩
theorem dw_and {c c' : Bool} (h : DT X B ss a c) (h' : c = true → DW X B ss (.BoolOp .And (b :: rest) pos) c') : DW X B ss (.BoolOp .And (a :: b :: rest) pos) (c && c') := fun Z M σ H hh Q k =>
  ⟨_, pw_and (tA := cT X a) (tB' := cW X (.BoolOp .And (b :: rest) pos)) cT_ok cW_ok, h Z M σ H hh _ fun H1 e1 => by
    cases c with
    | false => exact k H1 e1
    | true =>
      show cW X (.BoolOp .And (b :: rest) pos) σ H1 Q
      exact h' rfl Z M σ H1 (hh.step e1) Q fun H2 e2 => k H2 (e1.trans e2)⟩
theorem dw_or {c c' : Bool} (h : DT X B ss a c) (h' : c = false → DW X B ss (.BoolOp .Or (b :: rest) pos) c') : DW X B ss (.BoolOp .Or (a :: b :: rest) pos) (c || c') := fun Z M σ H hh Q k =>
  ⟨_, pw_or (tA := cT X a) (tB' := cW X (.BoolOp .Or (b :: rest) pos)) cT_ok cW_ok, h Z M σ H hh _ fun H1 e1 => by
    cases c with
    | true => exact k H1 e1
    | false =>
      show cW X (.BoolOp .Or (b :: rest) pos) σ H1 Q
      exact h' rfl Z M σ H1 (hh.step e1) Q fun H2 e2 => k H2 (e1.trans e2)⟩
theorem de_one {op : BoolOp} (h : DE X B ss a d) : DE X B ss (.BoolOp op [a] pos) d := fun Z M σ H hh Q k => ⟨_, pe_one (t := cE X a) cE_ok, h Z M σ H hh Q k⟩
theorem de_and {c c' : Bool} (h : DE X B ss a (.bool c)) (h' : c = true → DE X B ss (.BoolOp .And (b :: rest) pos) (.bool c')) : DE X B ss (.BoolOp .And (a :: b :: rest) pos) (.bool (c && c')) := fun Z M σ H hh Q k =>
  ⟨_, pe_and (ta := cE X a) (tb := cE X (.BoolOp .And (b :: rest) pos)) cE_ok cE_ok, h Z M σ H hh _ fun v H1 e1 r1 => ⟨c, r1.blv, by
    cases c with
    | false => exact k _ H1 e1 (.bl false)
    | true =>
      show cE X (.BoolOp .And (b :: rest) pos) σ H1 Q
      exact h' rfl Z M σ H1 (hh.step e1) Q fun u H2 e2 => k u H2 (e1.trans e2)⟩⟩
theorem de_or {c c' : Bool} (h : DE X B ss a (.bool c)) (h' : c = false → DE X B ss (.BoolOp .Or (b :: rest) pos) (.bool c')) : DE X B ss (.BoolOp .Or (a :: b :: rest) pos) (.bool (c || c')) := fun Z M σ H hh Q k =>
  ⟨_, pe_or (ta := cE X a) (tb := cE X (.BoolOp .Or (b :: rest) pos)) cE_ok cE_ok, h Z M σ H hh _ fun v H1 e1 r1 => ⟨c, r1.blv, by
    cases c with
    | true => exact k _ H1 e1 (.bl true)
    | false =>
      show cE X (.BoolOp .Or (b :: rest) pos) σ H1 Q
      exact h' rfl Z M σ H1 (hh.step e1) Q fun u H2 e2 => k u H2 (e1.trans e2)⟩⟩
theorem de_not {c : Bool} (h : DE X B ss a (.bool c)) : DE X B ss (.UnaryOp .Not a pos) (.bool (!c)) := fun Z M σ H hh Q k =>
  ⟨_, pe_not (ta := cE X a) cE_ok, h Z M σ H hh _ fun v H1 e1 r1 => ⟨c, r1.blv, k _ H1 e1 (.bl _)⟩⟩
theorem de_if {c : Expr} {t : Bool} (hc : DT X B ss c t) (h1 : t = true → DE X B ss a d) (h2 : t = false → DE X B ss b d) : DE X B ss (.IfExp c a b pos) d := fun Z M σ H hh Q k =>
  ⟨_, pe_ifExp (tA := cT X c) (ta := cE X a) (tb := cE X b) cT_ok cE_ok cE_ok, hc Z M σ H hh _ fun H1 e1 => by
    cases t with
    | true =>
      show cE X a σ H1 Q
      exact h1 rfl Z M σ H1 (hh.step e1) Q fun u H2 e2 => k u H2 (e1.trans e2)
    | false =>
      show cE X b σ H1 Q
      exact h2 rfl Z M σ H1 (hh.step e1) Q fun u H2 e2 => k u H2 (e1.trans e2)⟩
/-! ### comparisons -/
def CmpD (X : Cx) (B : Hp) (ss : List SD) (op : CmpOp) (x y : PyData) (c : Bool) : Prop := ∃ r : R2, OpR X (compareOp op) r ∧ ∀ Z M σ H v w (Q : VK), Held X.K B Z M σ H ss → Is X.K (cut M H) v x → Is X.K (cut M H) w y → Q (.bl c) H → r v w H Q
theorem de_cmp {op : CmpOp} {c : Bool} (C : CmpD X B ss op x y c) (ha : DE X B ss a x) (hb : DE X B ss b y) (hm : behindInMarks op b = false := by first | exact nomark _ | rfl) : DE X B ss (.Compare a [op] [b] pos) (.bool c) := fun Z M σ H hh Q k => by
  obtain ⟨r, ho, hr⟩ := C
  exact ⟨_, pe_cmpR (ta := cE X a) (tb := cE X b) ho cE_ok cE_ok hm, ha Z M σ H hh _ fun v H1 e1 r1 => hb Z M σ H1 (hh.step e1) _ fun w H2 e2 r2 => hr Z M σ H2 v w Q ((hh.step e1).step e2) (r1.up (cut_ex e2)) r2 (k _ H2 (e1.trans e2) (.bl c))⟩
theorem dt_cmp {op : CmpOp} {c : Bool} (C : CmpD X B ss op x y c) (ha : DE X B ss a x) (hb : DE X B ss b y) (hm : behindInMarks op b = false := by first | exact nomark _ | rfl) : DT X B ss (.Compare a [op] [b] pos) c := fun Z M σ H hh Q k => by
  obtain ⟨r, ho, hr⟩ := C
  exact ⟨_, pt_cmpR (ta := cE X a) (tb := cE X b) ho cE_ok cE_ok hm, ha Z M σ H hh _ fun v H1 e1 r1 => hb Z M σ H1 (hh.step e1) _ fun w H2 e2 r2 => hr Z M σ H2 v w _ ((hh.step e1).step e2) (r1.up (cut_ex e2)) r2 ⟨c, rfl, k H2 (e1.trans e2)⟩⟩
section
variable {i j : Int} {s t : Str}
theorem cmp_I0 {op : CmpOp} {f : Int → Int → Bool} (ho : OpR X (compareOp op) (rI0 fun i j => .bl (f i j))) : CmpD X B ss op (.int i) (.int j) (f i j) := ⟨_, ho, fun Z M σ H v w Q hh rv rw' k => by
  cases rv.intv; cases rw'.intv
  exact ⟨i, j, rfl, rfl, k⟩⟩
theorem cmp_lt : CmpD X B ss .Lt (.int i) (.int j) (decide (i < j)) := cmp_I0 (f := fun i j => decide (i < j)) op_lt
theorem cmp_le : CmpD X B ss .LtE (.int i) (.int j) (decide (i ≤ j)) := cmp_I0 (f := fun i j => decide (i ≤ j)) op_le
theorem cmp_gt : CmpD X B ss .Gt (.int i) (.int j) (decide (j < i)) := cmp_I0 (f := fun i j => decide (j < i)) op_gt
theorem cmp_ge : CmpD X B ss .GtE (.int i) (.int j) (decide (j ≤ i)) := cmp_I0 (f := fun i j => decide (j ≤ i)) op_ge
theorem cmp_eqI : CmpD X B ss .Eq (.int i) (.int j) (decide (i = j)) := ⟨_, op_eq, fun Z M σ H v w Q hh rv rw' k => by
  cases rv.intv; cases rw'.intv
  refine ⟨rfl, ?_⟩
  rw [dec_int, Bool.beq_eq_decide_eq]
  exact k⟩
theorem cmp_neI : CmpD X B ss .NotEq (.int i) (.int j) (!decide (i = j)) := ⟨_, op_ne, fun Z M σ H v w Q hh rv rw' k => by
  cases rv.intv; cases rw'.intv
  refine ⟨rfl, ?_⟩
  rw [dec_int, Bool.beq_eq_decide_eq]
  exact k⟩
theorem cmp_eqS : CmpD X B ss .Eq (.str s) (.str t) (decide (s = t)) := ⟨_, op_eq, fun Z M σ H v w Q hh rv rw' k => by
  cases rv.strv; cases rw'.strv
  refine ⟨rfl, ?_⟩
  rw [dec_str, Bool.beq_eq_decide_eq]
  exact k⟩
theorem cmp_neS : CmpD X B ss .NotEq (.str s) (.str t) (!decide (s = t)) := ⟨_, op_ne, fun Z M σ H v w Q hh rv rw' k => by
  cases rv.strv; cases rw'.strv
  refine ⟨rfl, ?_⟩
  rw [dec_str, Bool.beq_eq_decide_eq]
  exact k⟩
theorem cmp_eqD (hu : X.A.units + 64 < cLine) (hx : SeqAt.shaped x = true) (hy : SeqAt.shaped y = true) : CmpD X B ss .Eq x y (PyData.eqv x y) := ⟨_, op_eqD hu, fun Z M σ H v w Q hh rv rw' k =>
  ⟨x, y, Is.dp _ _ (SeqAt.canLay_of_shaped hx) (rv.up cut_full), Is.dp _ _ (SeqAt.canLay_of_shaped hy) (rw'.up cut_full), hx, hy, k⟩⟩
theorem cmp_neD (hu : X.A.units + 64 < cLine) (hx : SeqAt.shaped x = true) (hy : SeqAt.shaped y = true) : CmpD X B ss .NotEq x y (!PyData.eqv x y) := ⟨_, op_neD hu, fun Z M σ H v w Q hh rv rw' k =>
  ⟨x, y, Is.dp _ _ (SeqAt.canLay_of_shaped hx) (rv.up cut_full), Is.dp _ _ (SeqAt.canLay_of_shaped hy) (rw'.up cut_full), hx, hy, k⟩⟩
theorem cmp_inD (hu : X.A.units + 65 < cLine) (hx : SeqAt.shaped x = true) (hy : SeqAt.shaped (.list ys) = true) : CmpD X B ss .In x (.list ys) (ys.any fun z => PyData.eqv z x) := ⟨_, op_inD hu, fun Z M σ H v w Q hh rv rw' k =>
  ⟨x, ys, Is.dp _ _ (SeqAt.canLay_of_shaped hx) (rv.up cut_full), Is.dp _ _ (SeqAt.canLay_of_shaped hy) (rw'.up cut_full), hx, hy, k⟩⟩
def noneB : PyData → Bool
  | .none => true
  | _ => false
theorem noneB_v {K : PySem.W.Frag} {H : Hp} {v : V} (h : Is K H v x) : decide (v = .non) = noneB x := by
  cases h <;> rfl
theorem cmp_isN : CmpD X B ss .Is x .none (noneB x) := ⟨_, op_isN, fun Z M σ H v w Q hh rv rw' k => by
  cases rw'.nonv
  refine ⟨rfl, ?_⟩
  rw [noneB_v rv]
  exact k⟩
theorem cmp_notN : CmpD X B ss .IsNot x .none (!noneB x) := ⟨_, op_notN, fun Z M σ H v w Q hh rv rw' k => by
  cases rw'.nonv
  refine ⟨rfl, ?_⟩
  rw [noneB_v rv]
  exact k⟩
theorem strs_in {K : PySem.W.Frag} {H : Hp} : ∀ {ts : List Str} {vs : List V}, IsAll K H vs (ts.map .str) → vs = ts.map V.str
  | [], _, h => by cases h; rfl
  | t :: ts, _, h => by
    cases h with
    | cons h1 h2 => rw [h1.strv, strs_in h2]; rfl
theorem inV_strs : ∀ ts : List Str, inV (.str s) (ts.map V.str) = decide (s ∈ ts)
  | [] => by simp [inV]
  | t :: ts => by
    have ih := inV_strs ts
    unfold inV at ih ⊢
    rw [List.map_cons, List.any_cons, ih]
    by_cases h : t = s
    · subst h; simp [eqV]
    · have h' : ¬ s = t := fun q => h q.symm
      simp [eqV, h, h']
theorem flat_strs : ∀ ts : List Str, (ts.map V.str).all flatV = true
  | [] => rfl
  | t :: ts => flat_strs ts
/-- a text in a written tuple of texts -/
theorem cmp_inT (ts : List Str) : CmpD X B ss .In (.str s) (.tuple (ts.map .str)) (decide (s ∈ ts)) := ⟨_, op_in_seq, fun Z M σ H v w Q hh rv rw' k => by
  cases rv.strv
  cases rw' with
  | tup h1 t1 =>
    have ev := strs_in t1
    subst ev
    refine ⟨_, _, rfl, .inr (Evl.ex_t cut_full h1), rfl, flat_strs ts, ?_⟩
    show Q (.bl (if false = true then _ else inV (.str s) (ts.map V.str))) H
    rw [if_neg (by decide), inV_strs]
    exact k⟩
end

/-! ### more built-ins -/
theorem ints_of {K : PySem.W.Frag} {H : Hp} : ∀ {ns : List Int} {vs : List V}, IsAll K H vs (ns.map .int) → vs = ns.map V.int
  | [], _, h => by cases h; rfl
  | n :: ns, _, h => by
    cases h with
    | cons h1 h2 => rw [h1.intv, ints_of h2]; rfl
theorem bools_of {K : PySem.W.Frag} {H : Hp} : ∀ {bs : List Bool} {vs : List V}, IsAll K H vs (bs.map .bool) → vs = bs.map V.bl
  | [], _, h => by cases h; rfl
  | n :: ns, _, h => by
    cases h with
    | cons h1 h2 => rw [h1.blv, bools_of h2]; rfl
section
variable {p q : Pos} (he : starEach [a] X.env = (false, eval a X.env) :: starEach [] X.env := by rfl) (hpl : (backTo q (starEach [] X.env)).any (·.1) = false := by rfl)
theorem de_abs {i : Int} (hm : X.mg "abs" = none) (ha : DE X B ss a (.int i)) (hg : Gl X "abs" := by rfl) (he : starEach [a] X.env = (false, eval a X.env) :: starEach [] X.env := by rfl) (hpl : (backTo q (starEach [] X.env)).any (·.1) = false := by rfl) :
    DE X B ss (.Call (.Name "abs" p) [a] [] q) (.int (if i < 0 then -i else i)) :=
  de_callB call_abs hm (by decide +kernel) (da_cons ha da_nil he) (fun Z M σ H vs Q hh r k => by
    obtain ⟨v, rfl, r1⟩ := isAll1 r
    exact ⟨i, by rw [r1.intv], k _ H (Ex.refl H) (.int _)⟩) hg (by decide) (by decide) he hpl
theorem de_sum {ns : List Int} (hc : X.calm = true) (hm : X.mg "sum" = none) (ha : DE X B ss a (.list (ns.map .int))) (hg : Gl X "sum" := by rfl) (he : starEach [a] X.env = (false, eval a X.env) :: starEach [] X.env := by rfl) (hpl : (backTo q (starEach [] X.env)).any (·.1) = false := by rfl) :
    DE X B ss (.Call (.Name "sum" p) [a] [] q) (.int ns.sum) :=
  de_callB (cr_sum hc) hm (by decide +kernel) (da_cons ha da_nil he) (fun Z M σ H vs Q hh r k => by
    obtain ⟨v, rfl, r1⟩ := isAll1 r
    cases r1 with
    | lst h1 t1 =>
      rw [ints_of t1] at h1
      exact ⟨_, ns, rfl, SqL.of (cut_full _ _ h1), k _ H (Ex.refl H) (.int _)⟩) hg (by decide) (by decide) he hpl
theorem de_all {bs : List Bool} (hc : X.calm = true) (hm : X.mg "all" = none) (ha : DE X B ss a (.list (bs.map .bool))) (hg : Gl X "all" := by rfl) (he : starEach [a] X.env = (false, eval a X.env) :: starEach [] X.env := by rfl) (hpl : (backTo q (starEach [] X.env)).any (·.1) = false := by rfl) :
    DE X B ss (.Call (.Name "all" p) [a] [] q) (.bool (bs.all id)) :=
  de_callB (cr_all hc) hm (by decide +kernel) (da_cons ha da_nil he) (fun Z M σ H vs Q hh r k => by
    obtain ⟨v, rfl, r1⟩ := isAll1 r
    cases r1 with
    | lst h1 t1 =>
      rw [bools_of t1] at h1
      exact ⟨_, bs, rfl, SqL.of (cut_full _ _ h1), k _ H (Ex.refl H) (.bl _)⟩) hg (by decide) (by decide) he hpl
theorem de_any {bs : List Bool} (hc : X.calm = true) (hm : X.mg "any" = none) (ha : DE X B ss a (.list (bs.map .bool))) (hg : Gl X "any" := by rfl) (he : starEach [a] X.env = (false, eval a X.env) :: starEach [] X.env := by rfl) (hpl : (backTo q (starEach [] X.env)).any (·.1) = false := by rfl) :
    DE X B ss (.Call (.Name "any" p) [a] [] q) (.bool (bs.any id)) :=
  de_callB (cr_any hc) hm (by decide +kernel) (da_cons ha da_nil he) (fun Z M σ H vs Q hh r k => by
    obtain ⟨v, rfl, r1⟩ := isAll1 r
    cases r1 with
    | lst h1 t1 =>
      rw [bools_of t1] at h1
      exact ⟨_, bs, rfl, SqL.of (cut_full _ _ h1), k _ H (Ex.refl H) (.bl _)⟩) hg (by decide) (by decide) he hpl
theorem de_intI {i : Int} (hm : X.mg "int" = none) (ha : DE X B ss a (.int i)) (hg : Gl X "int" := by rfl) (he : starEach [a] X.env = (false, eval a X.env) :: starEach [] X.env := by rfl) (hpl : (backTo q (starEach [] X.env)).any (·.1) = false := by rfl) :
    DE X B ss (.Call (.Name "int" p) [a] [] q) (.int i) :=
  de_callTy call_int1 hm (by decide +kernel) (da_cons ha da_nil he) (fun Z M σ H vs Q hh r k => by
    obtain ⟨v, rfl, r1⟩ := isAll1 r
    exact .inl ⟨i, by rw [r1.intv], k _ H (Ex.refl H) (.int _)⟩) hg (by decide) (by decide) he hpl
theorem de_intB {i : Bool} (hm : X.mg "int" = none) (ha : DE X B ss a (.bool i)) (hg : Gl X "int" := by rfl) (he : starEach [a] X.env = (false, eval a X.env) :: starEach [] X.env := by rfl) (hpl : (backTo q (starEach [] X.env)).any (·.1) = false := by rfl) :
    DE X B ss (.Call (.Name "int" p) [a] [] q) (.int (if i then 1 else 0)) :=
  de_callTy call_int1 hm (by decide +kernel) (da_cons ha da_nil he) (fun Z M σ H vs Q hh r k => by
    obtain ⟨v, rfl, r1⟩ := isAll1 r
    exact .inr ⟨i, by rw [r1.blv], k _ H (Ex.refl H) (.int _)⟩) hg (by decide) (by decide) he hpl
/-- list(xs): a new list -/
theorem dl_listOf (hm : X.mg "list" = none) (ha : DE X B ss a (.list xs)) (hg : Gl X "list" := by rfl) (he : starEach [a] X.env = (false, eval a X.env) :: starEach [] X.env := by rfl) (hpl : (backTo q (starEach [] X.env)).any (·.1) = false := by rfl) :
    DL X B ss (.Call (.Name "list" p) [a] [] q) xs := fun Z M σ H hh Q k =>
  ⟨_, pe_callTy (t := cA X [a]) call_list_of hg hm (by decide +kernel) cA_ok (by decide) (by decide) he hpl, da_cons ha da_nil he Z M σ H hh _ fun vs H1 e1 r1 => by
    obtain ⟨v, rfl, r2⟩ := isAll1 r1
    cases r2 with
    | lst h1 t1 => exact ⟨_, _, rfl, .inl (SqL.of (cut_full _ _ h1)), fun l hl => k l _ _ (Evl.fresh_back e1 hl) (e1.trans (Ex.new hl)) upd_same (t1.up (ex_hide hl))⟩⟩
end
theorem de_gcd {x : Str} {c : Expr} {i j : Int} {p q : Pos} (hm : X.mg x = some (.builtin "math.gcd")) (ha : DE X B ss a (.int i)) (hb : DE X B ss c (.int j)) (hg : Gl X x := by rfl) (hdb : (x == ("__debug__" : Str)) = false := by decide)
    (he : starEach [a, c] X.env = (false, eval a X.env) :: starEach [c] X.env := by rfl) (he2 : starEach [c] X.env = (false, eval c X.env) :: starEach [] X.env := by rfl) (hpl : (backTo q (starEach [c] X.env)).any (·.1) = false := by rfl) :
    DE X B ss (.Call (.Name x p) [a, c] [] q) (.int (Nat.gcd i.natAbs j.natAbs : Nat)) := fun Z M σ H hh Q k =>
  ⟨_, pe_callBfun (t := cA X [a, c]) cr_gcd hg hm cA_ok hdb he hpl, da_cons ha (da_cons hb da_nil he2) he Z M σ H hh _ fun vs H1 e1 r1 => by
    obtain ⟨v, w, rfl, r3, r2⟩ := isAll2 r1
    exact ⟨i, j, by rw [r3.intv, r2.intv], k _ H1 e1 (.int _)⟩⟩
theorem isAll_rg {K : PySem.W.Frag} {H : Hp} : ∀ l : List Nat, IsAll K H (l.map fun i => V.int (0 + (i : Nat))) (l.map fun i => PyData.int (i : Nat))
  | [] => .nil
  | i :: l => by
    refine .cons ?_ (isAll_rg l)
    show Is K H (.int (0 + (i : Nat))) (.int (i : Nat))
    rw [Int.zero_add]
    exact .int _
/-- list(range(n)) -/
theorem dl_listRg {p q p2 q2 : Pos} {n : Int} (hc : X.calm = true) (hm : X.mg "list" = none) (hm2 : X.mg "range" = none) (ha : DE X B ss a (.int n)) (h0 : 0 ≤ n) (h1 : n ≤ 1000000) (hg : Gl X "list" := by rfl) (hg2 : Gl X "range" := by rfl)
    (na : starEach [a] X.env = (false, eval a X.env) :: starEach [] X.env := by rfl) (na2 : starEach [.Call (.Name "range" p2) [a] [] q2] X.env = (false, eval (.Call (.Name "range" p2) [a] [] q2) X.env) :: starEach [] X.env := by rfl) :
    DL X B ss (.Call (.Name "list" p) [.Call (.Name "range" p2) [a] [] q2] [] q) ((List.range n.toNat).map fun i => PyData.int (i : Nat)) := fun Z M σ H hh Q k =>
  ⟨_, pe_listRg hc hg hm (prg_1 (ta := cE X a) hg2 hm2 cE_ok na) na2, ha Z M σ H hh _ fun v H1 e1 r1 => ⟨n, r1.intv, RgOk.of_le (Int.le_refl _) (by omega) (by omega) h0, fun l hl =>
    k l _ _ (Evl.fresh_back e1 hl) (e1.trans (Ex.new hl)) upd_same (by
      unfold rgV
      rw [Int.sub_zero]
      exact isAll_rg _)⟩⟩
/-! ### isinstance -/
theorem de_isi {p q pt : Pos} {T : Str} {Ts S : String} {bb : Bool} (hm : X.mg "isinstance" = none) (hmT : X.mg T = none) (hvT : bootBuiltins T = some (.type Ts)) (ha : DE X B ss a x) (hty : ∀ H v, Is X.K H v x → TyX X.K H v (.type S)) (hk : kitB S Ts = some bb)
    (hg : Gl X "isinstance" := by rfl) (hgT : Gl X T := by rfl) (hnT : T ≠ "__name__" := by decide) (hdT : (T == ("__debug__" : Str)) = false := by decide)
    (he : starEach [a, .Name T pt] X.env = (false, eval a X.env) :: starEach [.Name T pt] X.env := by rfl) (he2 : starEach [.Name T pt] X.env = (false, eval (.Name T pt) X.env) :: starEach [] X.env := by rfl) (hpl : (backTo q (starEach [.Name T pt] X.env)).any (·.1) = false := by rfl) :
    DE X B ss (.Call (.Name "isinstance" p) [a, .Name T pt] [] q) (.bool bb) := fun Z M σ H hh Q k =>
  ⟨_, pe_callB call_isi hg hm (by decide +kernel) (pa_cons (te := cE X a) cE_ok (pa_cons (pe_bltn (v := .ty Ts) hgT hmT hvT rfl hnT hdT) pa_nil he2) he) (by decide) (by decide) he hpl, ha Z M σ H hh _ fun v H1 e1 r1 =>
    ⟨v, .ty Ts, .type S, .type Ts, bb, rfl, .ty Ts, hty _ _ (r1.up cut_full), kit_ty hk, k _ H1 e1 (.bl bb)⟩⟩
end
end Hk
end
section
set_option Elab.async false
set_option linter.all false
set_option maxRecDepth 100000
set_option maxHeartbeats 2000000
namespace Hk
open PySem PySem.Spec PyProof.Rows L2
open Evl (Ex)

/-! ### statements -/
def cS (X : Cx) (st : Stmt) : TS := fun D σ H => ∃ t, PS X st t ∧ t D σ H
theorem cS_ok {X : Cx} {st : Stmt} : PS X st (cS X st) := ⟨fun pins s σ H D I ⟨t, h, q⟩ => h.run pins s σ H D I q⟩
def cB (X : Cx) (sts : List Stmt) : TS := fun D σ H => ∃ t, PSs X sts t ∧ t D σ H
theorem cB_ok {X : Cx} {sts : List Stmt} : PSs X sts (cB X sts) := ⟨fun pins s σ H D I ⟨t, h, q⟩ => h.run pins s σ H D I q⟩
def cG (X : Cx) (tg : Expr) : TG := fun v σ H Q => ∃ t, PG X tg t ∧ t v σ H Q
theorem cG_ok {X : Cx} {tg : Expr} : PG X tg (cG X tg) := ⟨fun pins s σ H v u Q I r ⟨t, h, q⟩ => h.run pins s σ H v u Q I r q⟩
def cGs (X : Cx) (tg : List Expr) : TGs := fun v σ H Q => ∃ t, PGs X tg t ∧ t v σ H Q
theorem cGs_ok {X : Cx} {tg : List Expr} : PGs X tg (cGs X tg) := ⟨fun pins s σ H v u Q I r ⟨t, h, q⟩ => h.run pins s σ H v u Q I r q⟩
def cI (X : Cx) (tg it : Expr) : TI := fun σ H R => ∃ t, PI X tg it t ∧ t σ H R
theorem cI_ok {X : Cx} {tg it : Expr} : PI X tg it (cI X tg it) := ⟨fun pins s σ H R I ⟨t, h, q⟩ => h.run pins s σ H R I q⟩

/-- what is wanted behind a statement, on data -/
structure Out where
  nx : List SD → Prop
  rt : PyData → Prop
  bk : List SD → Prop
  ct : List SD → Prop
structure Meets (K : PySem.W.Frag) (B : Hp) (Z : Addr → Prop) (o : Out) (D : Ends) : Prop where
  nx : ∀ σ H ss M, o.nx ss → Held K B Z M σ H ss → D.nx σ H
  rt : ∀ v H d, o.rt d → Ex B H → Is K (cut Z H) v d → D.rt v H
  bk : ∀ σ H ss M, o.bk ss → Held K B Z M σ H ss → D.bk σ H
  ct : ∀ σ H ss M, o.ct ss → Held K B Z M σ H ss → D.ct σ H
def DS (X : Cx) (B : Hp) (ss : List SD) (st : Stmt) (o : Out) : Prop := ∀ Z M σ H, Held X.K B Z M σ H ss → ∀ D, Meets X.K B Z o D → cS X st D σ H
def DSs (X : Cx) (B : Hp) (ss : List SD) (sts : List Stmt) (o : Out) : Prop := ∀ Z M σ H, Held X.K B Z M σ H ss → ∀ D, Meets X.K B Z o D → cB X sts D σ H
/-- slots but these are kept -/
def Off (is : List Nat) (σ σ' : L2.St) : Prop := σ'.length = σ.length ∧ ∀ j, j ∉ is → σ'[j]? = σ[j]?
def DG (X : Cx) (tg : Expr) (d : PyData) (is : List Nat) (ss ss' : List SD) : Prop := ∀ B Z M σ H v, Held X.K B Z M σ H ss → Is X.K (cut M H) v d → ∀ Q : L2.St → Hp → Prop, (∀ σ', Off is σ σ' → Held X.K B Z M σ' H ss' → Q σ' H) → cG X tg v σ H Q
def DGs (X : Cx) (tg : List Expr) (ds : List PyData) (is : List Nat) (ss ss' : List SD) : Prop := ∀ B Z M σ H vs, Held X.K B Z M σ H ss → IsAll X.K (cut M H) vs ds → ∀ Q : L2.St → Hp → Prop, (∀ σ', Off is σ σ' → Held X.K B Z M σ' H ss' → Q σ' H) → cGs X tg vs σ H Q
theorem Off.refl {is : List Nat} {σ : L2.St} : Off is σ σ := ⟨rfl, fun _ _ => rfl⟩
theorem Off.set {i : Nat} {σ : L2.St} {x : Option V} : Off [i] σ (σ.set i x) := ⟨by simp, fun j hj => by rw [List.getElem?_set_ne (fun e => hj (by simp [e]))]⟩
theorem Off.trans {is js : List Nat} {σ σ' σ'' : L2.St} (a : Off is σ σ') (b : Off js σ' σ'') : Off (is ++ js) σ σ'' := ⟨b.1.trans a.1, fun j hj => by
  rw [List.mem_append, not_or] at hj
  exact (b.2 j hj.2).trans (a.2 j hj.1)⟩

section
variable {X : Cx} {B : Hp} {ss ss' ss'' : List SD} {e a b tg : Expr} {es tgs : List Expr} {d x y z : PyData} {ds xs ys : List PyData} {pos p' : Pos} {o : Out} {st : Stmt} {sts rest : List Stmt}

/-! ### targets -/
theorem dg_name {x : Str} (i : Nat) (nd : X.N.Nodup) (hi : X.N[i]? = some x := by rfl) (hx : Loc X.env.scope x := by first | exact Or.inl rfl | exact Or.inr rfl) (hf : X.fn x = true ∨ X.env.scope.names.lookup x = some .local := by first | exact .inl rfl | exact .inr rfl) :
    DG X (.Name x pos) d [i] ss (ss.set i (.d d)) := fun B Z M σ H v hh r Q k => ⟨_, pg_name nd hi hx hf, k _ .set (hh.setD i r)⟩
theorem dgs_nil : DGs X [] [] [] ss ss := fun B Z M σ H vs hh r Q k => by
  cases r
  exact ⟨_, pgs_nil, rfl, k σ .refl hh⟩
theorem dgs_cons {is js : List Nat} (h1 : DG X e d is ss ss') (h2 : DGs X es ds js ss' ss'') (hs : (assignEach (e :: es) X.env).map (·.2) = assign e X.env :: (assignEach es X.env).map (·.2) := by rfl) : DGs X (e :: es) (d :: ds) (is ++ js) ss ss'' := fun B Z M σ H vs hh r Q k => by
  cases r with
  | cons r1 r2 =>
    exact ⟨_, pgs_cons (t := cG X e) (u := cGs X es) cG_ok cGs_ok hs, _, _, rfl, h1 B Z M σ H _ hh r1 _ fun σ' o1 hh' => h2 B Z M σ' H _ hh' r2 Q fun σ'' o2 hh'' => k σ'' (o1.trans o2) hh''⟩
theorem dg_tup {k : Nat} {is : List Nat} (hc : X.calm = true) (h : DGs X es ds is ss ss') (hl : ds.length = es.length := by rfl) (hn : (assignEach es X.env).length = es.length := by rfl) (hst : (assignEach es X.env).findIdx? (·.1) = none := by rfl) : DG X (.Tuple es k pos) (.tuple ds) is ss ss' := fun B Z M σ H v hh r Q kk => by
  cases r with
  | tup h1 t1 => exact ⟨_, pg_tup (t := cGs X es) hc cGs_ok hn hst, _, _, rfl, Evl.ex_t cut_full h1, by rw [t1.len, hl], h B Z M σ H _ hh t1 Q kk⟩

/-! ### blocks -/
theorem dss_nil (h : o.nx ss) : DSs X B ss [] o := fun Z M σ H hh D m => ⟨_, pss_nil, m.nx σ H ss M h hh⟩
theorem dss_cons {mid : List SD → Prop} (h : DS X B ss st { o with nx := mid }) (hr : ∀ ss', mid ss' → DSs X B ss' rest o) : DSs X B ss (st :: rest) o := fun Z M σ H hh D m =>
  ⟨_, pss_cons (t := cS X st) (u := cB X rest) cS_ok cB_ok, h Z M σ H hh { D with nx := cB X rest D } ⟨fun σ' H' ss' M' q hh' => hr ss' q Z M' σ' H' hh' D m, m.rt, m.bk, m.ct⟩⟩
theorem dss_seq {s1 : List SD} (h : DS X B ss st { o with nx := fun s => s = s1 }) (hr : DSs X B s1 rest o) : DSs X B ss (st :: rest) o := dss_cons h fun ss' q => by
  subst q; exact hr
/-- nothing follows -/
theorem dss_end (h : DS X B ss st { o with nx := fun _ => False }) : DSs X B ss (st :: rest) o := dss_cons h fun _ q => q.elim
theorem dss_one (h : DS X B ss st o) : DSs X B ss [st] o := dss_cons (mid := o.nx) h fun _ q => dss_nil q
theorem dss_frz {i : Nat} (h : ss[i]? = some (.m xs)) (hr : DSs X B (ss.set i (.d (.list xs))) sts o) : DSs X B ss sts o := fun Z M σ H hh D m => by
  obtain ⟨M', sub, hh'⟩ := hh.frz h
  exact hr Z M' σ H hh' D m
theorem ds_frz {i : Nat} (h : ss[i]? = some (.m xs)) (hr : DS X B (ss.set i (.d (.list xs))) st o) : DS X B ss st o := fun Z M σ H hh D m => by
  obtain ⟨M', sub, hh'⟩ := hh.frz h
  exact hr Z M' σ H hh' D m
/-- what is known of a slot is forgotten -/
theorem Held.weak {K : PySem.W.Frag} {B : Hp} {Z M : Addr → Prop} {σ : L2.St} {H : Hp} (h : Held K B Z M σ H ss) (i : Nat) : Held K B Z M σ H (ss.set i .no) := by
  by_cases hi : i < σ.length
  · have q := h.forget i σ[i]
    rwa [List.set_getElem_self] at q
  · have e : ss.set i .no = ss := List.set_eq_of_length_le (by rw [← h.len]; omega)
    rw [e]; exact h
theorem dss_weak (i : Nat) (hr : DSs X B (ss.set i .no) sts o) : DSs X B ss sts o := fun Z M σ H hh D m => hr Z M σ H (hh.weak i) D m

/-! ### single statements -/
theorem ds_set {x : Str} (i : Nat) (nd : X.N.Nodup) (h : DE X B ss e d) (k : o.nx (ss.set i (.d d))) (hi : X.N[i]? = some x := by rfl) (hx : Loc X.env.scope x := by first | exact Or.inl rfl | exact Or.inr rfl) (hs : swapsWith e (some (.Name x p')) pos.line X.env = pure false := by rfl)
    (hf : X.fn x = true ∨ X.env.scope.names.lookup x = some .local := by first | exact .inl rfl | exact .inr rfl) : DS X B ss (.Assign [.Name x p'] e pos) o := fun Z M σ H hh D m =>
  ⟨_, ps_set (te := cE X e) nd hi hx cE_ok hs hf, h Z M σ H hh _ fun v H' e1 r1 => m.nx _ _ _ M k ((hh.step e1).setD i r1)⟩
theorem ds_setL {x : Str} (i : Nat) (nd : X.N.Nodup) (h : DL X B ss e ds) (k : o.nx (ss.set i (.m ds))) (hi : X.N[i]? = some x := by rfl) (hx : Loc X.env.scope x := by first | exact Or.inl rfl | exact Or.inr rfl) (hs : swapsWith e (some (.Name x p')) pos.line X.env = pure false := by rfl)
    (hf : X.fn x = true ∨ X.env.scope.names.lookup x = some .local := by first | exact .inl rfl | exact .inr rfl) : DS X B ss (.Assign [.Name x p'] e pos) o := fun Z M σ H hh D m =>
  ⟨_, ps_set (te := cE X e) nd hi hx cE_ok hs hf, h Z M σ H hh _ fun p vs H' n e1 hp r1 => m.nx _ _ _ _ k (hh.setNew i n e1 hp r1)⟩
/-- a target of any kind -/
theorem ds_asg {is : List Nat} (h : DE X B ss e d) (hg : DG X tg d is ss ss') (k : o.nx ss') (hs : swapsWithSole [tg] e pos.line X.env = pure false := by rfl) (hw : swappedStores [tg] e X.env = pure none := by rfl) (h1 : (assignEach [tg] X.env).map (·.2) = [assign tg X.env] := by rfl) :
    DS X B ss (.Assign [tg] e pos) o := fun Z M σ H hh D m =>
  ⟨_, ps_asg (te := cE X e) (g := cG X tg) cE_ok cG_ok hs hw h1, h Z M σ H hh _ fun v H' e1 r1 => hg B Z M σ H' v (hh.step e1) r1 _ fun σ' _ hh' => m.nx _ _ _ M k hh'⟩
/-- a, b = e1, e2 -/
theorem ds_par {x1 x2 : Str} {px py pt : Pos} {kt k2 : Nat} {pt2 : Pos} (i j : Nat) (hc : X.calm = true) (nd : X.N.Nodup) (h : DA X B ss [a, b] [x, y]) (hw : swappedStores [.Tuple [.Name x1 px, .Name x2 py] kt pt] (.Tuple [a, b] k2 pt2) X.env = pure (some [x1, x2])) (k : o.nx ((ss.set i (.d x)).set j (.d y)))
    (hi : X.N[i]? = some x1 := by rfl) (hj : X.N[j]? = some x2 := by rfl) (hij : i ≠ j := by decide) (hx : X.env.scope.names.lookup x1 = some .local := by rfl) (hy : X.env.scope.names.lookup x2 = some .local := by rfl)
    (hs : swapsWithSole [.Tuple [.Name x1 px, .Name x2 py] kt pt] (.Tuple [a, b] k2 pt2) pos.line X.env = pure false := by rfl) : DS X B ss (.Assign [.Tuple [.Name x1 px, .Name x2 py] kt pt] (.Tuple [a, b] k2 pt2) pos) o := fun Z M σ H hh D m =>
  ⟨_, ps_par (ta := cA X [a, b]) hc nd hi hj hij hx hy cA_ok hw hs, h Z M σ H hh _ fun vs H' e1 r1 => by
    obtain ⟨v, w, rfl, r2, r3⟩ := isAll2 r1
    exact ⟨v, w, rfl, m.nx _ _ _ M k (((hh.step e1).setD i r2).setD j r3)⟩⟩
/-- a, b = [], [] -/
theorem ds_parL {x1 x2 : Str} {px py pt pa pb : Pos} {kt k2 : Nat} {pt2 : Pos} (i j : Nat) (hc : X.calm = true) (nd : X.N.Nodup) (hw : swappedStores [.Tuple [.Name x1 px, .Name x2 py] kt pt] (.Tuple [.List [] pa, .List [] pb] k2 pt2) X.env = pure (some [x1, x2])) (k : o.nx ((ss.set i (.m [])).set j (.m [])))
    (hi : X.N[i]? = some x1 := by rfl) (hj : X.N[j]? = some x2 := by rfl) (hij : i ≠ j := by decide) (hx : X.env.scope.names.lookup x1 = some .local := by rfl) (hy : X.env.scope.names.lookup x2 = some .local := by rfl)
    (he : starEach [.List [] pa, .List [] pb] X.env = (false, eval (.List [] pa) X.env) :: starEach [.List [] pb] X.env := by rfl) (he2 : starEach [.List [] pb] X.env = (false, eval (.List [] pb) X.env) :: starEach [] X.env := by rfl)
    (hs : swapsWithSole [.Tuple [.Name x1 px, .Name x2 py] kt pt] (.Tuple [.List [] pa, .List [] pb] k2 pt2) pos.line X.env = pure false := by rfl) : DS X B ss (.Assign [.Tuple [.Name x1 px, .Name x2 py] kt pt] (.Tuple [.List [] pa, .List [] pb] k2 pt2) pos) o := fun Z M σ H hh D m =>
  ⟨_, ps_par hc nd hi hj hij hx hy (pa_cons (pe_lst pa_nil) (pa_cons (pe_lst pa_nil) pa_nil he2) he) hw hs, Nat.zero_le _, fun p hp => ⟨Nat.zero_le _, fun q hq => ⟨_, _, rfl, by
    have h1 := hh.setNew i (vs := []) (ys := []) hp (Ex.new hp) upd_same .nil
    exact m.nx _ _ _ _ k (h1.setNew j (vs := []) (ys := []) hq (Ex.new hq) upd_same .nil)⟩⟩⟩
theorem ds_ret (h : DE X B ss e d) (k : o.rt d) : DS X B ss (.Return (some e) pos) o := fun Z M σ H hh D m =>
  ⟨_, ps_ret (te := cE X e) cE_ok, h Z M σ H hh _ fun v H' e1 r1 => m.rt v H' d k (hh.ex.trans e1) (r1.up (cut_less hh.zM))⟩
theorem ds_if {c : Expr} {t : Bool} (hc : DT X B ss c t) (h1 : t = true → DSs X B ss sts o) (h2 : t = false → DSs X B ss rest o) : DS X B ss (.If c sts rest pos) o := fun Z M σ H hh D m =>
  ⟨_, ps_if (tc := cT X c) (t := cB X sts) (u := cB X rest) cT_ok cB_ok cB_ok, hc Z M σ H hh _ fun H1 e1 => by
    cases t with
    | true =>
      show cB X sts D σ H1
      exact h1 rfl Z M σ H1 (hh.step e1) D m
    | false =>
      show cB X rest D σ H1
      exact h2 rfl Z M σ H1 (hh.step e1) D m⟩
/-- xs.append(e) -/
theorem ds_app {x : Str} {po apos cpos pos : Pos} (s : Nat) (hm : ss[s]? = some (.m xs)) (h : DE X B ss e d) (hl : xs.length < 100000) (k : o.nx (ss.set s (.m (xs ++ [d])))) (hN : X.N[s]? = some x := by rfl)
    (hv : Vis X.env.scope x := by first | exact Or.inl rfl | exact Or.inr (Or.inl rfl) | exact Or.inr (Or.inr rfl)) (hd : (x == ("__debug__" : Str)) = false := by decide) (hcd : (x == ("__classdict__" : Str)) = false := by decide)
    (hbase : attributeBase (.Name x po) "append" X.env (eval (.Name x po) X.env) = eval (.Name x po) X.env := by rfl)
    (hfew : ((backTo cpos (starEach [e] X.env)).all (fun x => !x.1) && (backToKw cpos (keywordEach [] X.env)).all (fun x => x.1.isSome)
      && decide ([e].length + ([] : List Keyword).length + (if ([] : List Keyword).isEmpty then 0 else 1) < 30)) = true := by rfl)
    (hline : (apos.endLine == cpos.line) = true := by rfl) (hs : starEach [e] X.env = (false, eval e X.env) :: starEach [] X.env := by rfl) (hplain : (backTo cpos (starEach [] X.env)).any (·.1) = false := by rfl)
    (hsw : swapsWith (.Call (.Attribute (.Name x po) "append" apos) [e] [] cpos) none pos.line X.env = pure false := by rfl) :
    DS X B ss (.Expr (.Call (.Attribute (.Name x po) "append" apos) [e] [] cpos) pos) o := fun Z M σ H hh D m => by
  obtain ⟨p, vs, hp, hv1, ha, mm, nB⟩ := hh.getM hm
  refine ⟨_, ps_expr (pe_bm PySem.F.plainAttrs_list PySem.F.slot_list_append PySem.F.type_list_append mt_append (pe_var hN hv hd hcd) (pa_cons (te := cE X e) cE_ok pa_nil hs) hbase hfew hline hs hplain) hsw, .ref p, hp, .inl ⟨rfl, vs, SqL.of hv1⟩, h Z M σ H hh _ fun v H' e1 r1 => ?_⟩
  refine ⟨p, vs, v, rfl, rfl, e1 _ _ hv1, Evl.sz_lt (by rw [ha.len]; exact hl), m.nx _ _ _ M k ((hh.step e1).setM hm hp ((ha.up (cut_ex e1)).app (.cons r1 .nil)))⟩
/-- xs[i] = e -/
theorem ds_put {x : Str} {po ps pos : Pos} {j : Int} {n : Nat} (s : Nat) (hm : ss[s]? = some (.m xs)) (h : DE X B ss e d) (hi : DE X B ss b (.int j)) (hj : j = (n : Int)) (hn : n < xs.length) (k : o.nx (ss.set s (.m (xs.set n d)))) (hN : X.N[s]? = some x := by rfl)
    (hv : Vis X.env.scope x := by first | exact Or.inl rfl | exact Or.inr (Or.inl rfl) | exact Or.inr (Or.inr rfl)) (hd : (x == ("__debug__" : Str)) = false := by decide) (hcd : (x == ("__classdict__" : Str)) = false := by decide)
    (ha : ∀ v, assign (.Subscript (.Name x po) b ps) X.env v = (do
      let ov ← holding [v] (eval (.Name x po) X.env)
      let iv ← holding [v, ov] (eval b X.env)
      standAt ps
      holding [v, ov, iv] (setItem ov iv v)
      release [v, ov, iv] []) := by intro _; rfl)
    (hs : swapsWithSole [.Subscript (.Name x po) b ps] e pos.line X.env = pure false := by rfl) (hw : swappedStores [.Subscript (.Name x po) b ps] e X.env = pure none := by rfl) (h1 : (assignEach [.Subscript (.Name x po) b ps] X.env).map (·.2) = [assign (.Subscript (.Name x po) b ps) X.env] := by rfl) :
    DS X B ss (.Assign [.Subscript (.Name x po) b ps] e pos) o := fun Z M σ H hh D m => by
  refine ⟨_, ps_asg (te := cE X e) cE_ok (pg_sub (ti := cE X b) (pe_var hN hv hd hcd) cE_ok set_list ha) hs hw h1, h Z M σ H hh _ fun v H1 e1 r1 => ?_⟩
  have hh1 := hh.step e1
  obtain ⟨p, vs, hp, hv1, hA, mm, nB⟩ := hh1.getM hm
  refine ⟨.ref p, hp, hi Z M σ H1 hh1 _ fun w H2 e2 r2 => ?_⟩
  cases r2.intv
  refine ⟨p, vs, j, n, rfl, rfl, e2 _ _ hv1, by rw [hj]; exact Evl.ixN_nat (by rw [hA.len]; exact hn), m.nx _ _ _ M k ((hh1.step e2).setM hm hp ((hA.up (cut_ex e2)).set n (r1.up (cut_ex e2))))⟩
/-- n += e (whole numbers) -/
theorem ds_aug {x : Str} {i j : Int} (s : Nat) (nd : X.N.Nodup) (hm : ss[s]? = some (.d (.int i))) (h : DE X B ss e (.int j)) (k : o.nx (ss.set s (.d (.int (i + j))))) (hi : X.N[s]? = some x := by rfl) (hx : Loc X.env.scope x := by first | exact Or.inl rfl | exact Or.inr rfl)
    (hf : X.fn x = true ∨ X.env.scope.names.lookup x = some .local := by first | exact .inl rfl | exact .inr rfl) : DS X B ss (.AugAssign (.Name x p') .Add e pos) o := fun Z M σ H hh D m => by
  obtain ⟨v, hv, r⟩ := hh.getD hm
  cases r.intv
  exact ⟨_, ps_aug (te := cE X e) nd hi hx cE_ok ip_add hf, .int i, hv, h Z M σ H hh _ fun w H1 e1 r1 => ⟨i, j, rfl, r1.intv, m.nx _ _ _ M k ((hh.step e1).setD s (.int _))⟩⟩
/-- xs += ys (lists) -/
theorem ds_ext {x : Str} (s : Nat) (nd : X.N.Nodup) (hm : ss[s]? = some (.m xs)) (h : DE X B ss e (.list ys)) (hl : xs.length + ys.length ≤ sizeLine) (k : o.nx (ss.set s (.m (xs ++ ys)))) (hi : X.N[s]? = some x := by rfl) (hx : Loc X.env.scope x := by first | exact Or.inl rfl | exact Or.inr rfl)
    (hf : X.fn x = true ∨ X.env.scope.names.lookup x = some .local := by first | exact .inl rfl | exact .inr rfl) : DS X B ss (.AugAssign (.Name x p') .Add e pos) o := fun Z M σ H hh D m => by
  obtain ⟨p, vs, hp, hv1, ha, mm, nB⟩ := hh.getM hm
  refine ⟨_, ps_aug (te := cE X e) nd hi hx cE_ok iop_ext hf, .ref p, hp, h Z M σ H hh _ fun w H1 e1 r1 => ?_⟩
  cases r1 with
  | lst h1 t1 =>
    refine ⟨p, _, vs, _, rfl, rfl, e1 _ _ hv1, cut_full _ _ h1, by rw [ha.len, t1.len]; exact hl, ?_⟩
    have hs : σ.set s (some (.ref p)) = σ := by
      refine List.ext_getElem? fun i => ?_
      by_cases e : s = i
      · subst e
        rw [List.getElem?_set_self (by rw [hh.len]; exact (List.getElem?_eq_some_iff.mp hm).1), hp]
      · rw [List.getElem?_set_ne e]
    show D.nx (σ.set s (some (.ref p))) _
    rw [hs]
    exact m.nx _ _ _ M k ((hh.step e1).setM hm hp ((ha.up (cut_ex e1)).app t1))
theorem ds_brk (k : o.bk ss) : DS X B ss (.Break pos) o := fun Z M σ H hh D m => ⟨_, ps_break, m.bk _ _ _ M k hh⟩
theorem ds_cont (k : o.ct ss) : DS X B ss (.Continue pos) o := fun Z M σ H hh D m => ⟨_, ps_continue, m.ct _ _ _ M k hh⟩
/-- while, by a word with a number that falls -/
theorem ds_while {c : Expr} (hp : PassesOwn (model X.prog X.w) X.A X.env X.xe) (I : Nat → List SD → Prop) (m0 : Nat) (h0 : I m0 ss)
    (hs : ∀ m ss', I m ss' → ∃ t, DT X B ss' c t ∧ (t = true → DSs X B ss' sts { nx := fun s => ∃ m', m' < m ∧ I m' s, rt := o.rt, bk := o.nx, ct := fun s => ∃ m', m' < m ∧ I m' s }) ∧ (t = false → o.nx ss')) : DS X B ss (.While c sts [] pos) o := fun Z M σ H hh D m => by
  refine ⟨_, ps_while (tc := cT X c) (tb := cB X sts) hp cT_ok cB_ok, fun n σ' H' => ∃ ss' M', I n ss' ∧ Held X.K B Z M' σ' H' ss', ⟨m0, ss, M, h0, hh⟩, ?_⟩
  rintro n σ' H' ⟨ss', M', q, hh'⟩
  obtain ⟨t, ht, h1, h2⟩ := hs n ss' q
  refine ht Z M' σ' H' hh' _ fun H1 e1 => ?_
  cases t with
  | true =>
    refine ⟨fun σ2 H2 => ∃ n', n' < n ∧ ∃ ss2 M2, I n' ss2 ∧ Held X.K B Z M2 σ2 H2 ss2, fun σ2 H2 q => q, h1 rfl Z M' σ' H1 (hh'.step e1) _ ⟨?_, m.rt, ?_, ?_⟩⟩
    · rintro σ2 H2 ss2 M2 ⟨n', l, q⟩ h2'
      exact ⟨n', l, ss2, M2, q, h2'⟩
    · exact fun σ2 H2 ss2 M2 q h2' => m.nx _ _ _ M2 q h2'
    · rintro σ2 H2 ss2 M2 ⟨n', l, q⟩ h2'
      exact ⟨n', l, ss2, M2, q, h2'⟩
  | false => exact m.nx _ _ _ M' (h2 rfl) (hh'.step e1)
end
end Hk
end
section
set_option Elab.async false
set_option linter.all false
set_option maxRecDepth 100000
set_option maxHeartbeats 2000000
namespace Hk
open PySem PySem.Spec PyProof.Rows L2
open Evl (Ex)

/-! ### what a loop walks: these data, one after another; C: the heap where they stand -/
structure Wk (K : PySem.W.Frag) (J : It) (C : Hp) (ds : List PyData) : Prop where
  go : ∀ i H, i < ds.length → Ex C H → J.go i H
  stop : ∀ H, Ex C H → J.stop ds.length H
  yld : ∀ (i : Nat) H x H' d, ds[i]? = some d → Ex C H → J.yld i H x H' → Ex H H' ∧ ∀ M : Addr → Prop, (∀ a, M a → C a = none ∧ ∃ xs, H a = some (.lst xs)) → Is K (cut M H') x d
def DI (X : Cx) (B : Hp) (ss : List SD) (tg it : Expr) (ds : List PyData) : Prop := ∀ Z M σ H, Held X.K B Z M σ H ss → ∀ R : It → Hp → Prop, (∀ J C H', Ex H H' → Ex C (cut M H') → Wk X.K J C ds → R J H') → cI X tg it σ H R
theorem ex_cut {C H : Hp} {M : Addr → Prop} (e : Ex C H) (h : ∀ a, M a → C a = none) : Ex C (cut M H) := fun a o q => by
  have n : ¬ M a := fun m => by rw [h a m] at q; cases q
  rw [cut_of n]; exact e a o q
section
variable {K : PySem.W.Frag} {C : Hp} {a b c : Addr} {vs ws us : List V} {ds es : List PyData}
theorem wk_list (h : C a = some (.lst vs)) (t : IsAll K C vs ds) : Wk K (Itl K a) C ds where
  go := fun i H hi e => by
    have hv : i < vs.length := by rw [t.len]; exact hi
    exact ⟨vs, vs[i], SqL.of (e _ _ h), List.getElem?_eq_getElem hv⟩
  stop := fun H e => ⟨vs, SqL.of (e _ _ h), by rw [t.len]; exact Nat.le_refl _⟩
  yld := fun i H x H' d hd e y => by
    obtain ⟨rfl, y⟩ := y
    refine ⟨Ex.refl _, fun M hM => ?_⟩
    obtain ⟨v, hv, r⟩ := t.get hd
    have q := y vs (SqL.of (e _ _ h))
    rw [hv] at q; cases q
    exact r.up (ex_cut e fun a m => (hM a m).1)
theorem wk_tup (h : SqT K C a vs) (t : IsAll K C vs ds) : Wk K (Itt K a) C ds where
  go := fun i H hi e => by
    have hv : i < vs.length := by rw [t.len]; exact hi
    exact ⟨vs, vs[i], Evl.ex_t e h, List.getElem?_eq_getElem hv⟩
  stop := fun H e => ⟨vs, Evl.ex_t e h, by rw [t.len]; exact Nat.le_refl _⟩
  yld := fun i H x H' d hd e y => by
    obtain ⟨rfl, y⟩ := y
    refine ⟨Ex.refl _, fun M hM => ?_⟩
    obtain ⟨v, hv, r⟩ := t.get hd
    have q := y vs (Evl.ex_t e h)
    rw [hv] at q; cases q
    exact r.up (ex_cut e fun a m => (hM a m).1)
def rgD (lo : Int) (n : Nat) : List PyData := (List.range n).map fun i => PyData.int (lo + (i : Nat))
theorem rgD_get {lo : Int} {n i : Nat} {d : PyData} (h : (rgD lo n)[i]? = some d) : d = .int (lo + (i : Nat)) ∧ i < n := by
  unfold rgD at h
  rw [List.getElem?_map] at h
  by_cases hi : i < n
  · rw [List.getElem?_range hi] at h
    cases h; exact ⟨rfl, hi⟩
  · rw [List.getElem?_eq_none (by simpa using hi)] at h
    cases h
theorem rgD_len {lo : Int} {n : Nat} : (rgD lo n).length = n := by simp [rgD]
theorem wk_rng {lo : Int} {n : Nat} : Wk K (Itr lo n) C (rgD lo n) where
  go := fun i H hi e => by rw [rgD_len] at hi; exact hi
  stop := fun H e => by rw [rgD_len]; exact Nat.le_refl n
  yld := fun i H x H' d hd e y => by
    obtain ⟨rfl, rfl⟩ := y
    refine ⟨Ex.refl _, fun M hM => ?_⟩
    rw [(rgD_get hd).1]
    exact .int _
def enD (ds : List PyData) : List PyData := ds.zipIdx.map fun p => PyData.tuple [.int (p.2 : Nat), p.1]
theorem enD_get {i : Nat} {d : PyData} (h : (enD ds)[i]? = some d) : ∃ x, ds[i]? = some x ∧ d = .tuple [.int (i : Nat), x] := by
  unfold enD at h
  rw [List.getElem?_map, List.getElem?_zipIdx] at h
  cases e : ds[i]? with
  | none => rw [e] at h; cases h
  | some x =>
    rw [e] at h
    refine ⟨x, rfl, ?_⟩
    have := (Option.some.inj h).symm
    simpa using this
theorem enD_len : (enD ds).length = ds.length := by simp [enD]
theorem tup_new {H : Hp} {M : Addr → Prop} {T : Addr} {vs : List V} {ds : List PyData} (n : H T = none) (hM : ∀ a, M a → ∃ xs, H a = some (.lst xs)) (t : IsAll K (cut M H) vs ds) : Is K (cut M (upd H T (.tup vs))) (.ref T) (.tuple ds) := by
  have nM : ¬ M T := fun m => by
    obtain ⟨xs, e⟩ := hM T m
    rw [n] at e; cases e
  exact .tup (SqT.of (by rw [cut_of nM]; exact upd_same)) (t.up (cut_ex (Ex.new n)))
theorem wk_enum (h : C a = some (.lst vs)) (t : IsAll K C vs ds) : Wk K (Ite K a) C (enD ds) where
  go := fun i H hi e => by
    rw [enD_len] at hi
    have hv : i < vs.length := by rw [t.len]; exact hi
    exact ⟨vs, vs[i], SqL.of (e _ _ h), List.getElem?_eq_getElem hv⟩
  stop := fun H e => ⟨vs, SqL.of (e _ _ h), by rw [enD_len, t.len]; exact Nat.le_refl _⟩
  yld := fun i H x H' d hd e y => by
    obtain ⟨T, u, rfl, n, rfl, y⟩ := y
    refine ⟨Ex.new n, fun M hM => ?_⟩
    obtain ⟨z, hz, rfl⟩ := enD_get hd
    obtain ⟨v, hv, r⟩ := t.get hz
    have q := y vs (SqL.of (e _ _ h))
    rw [hv] at q; cases q
    exact tup_new n (fun a m => (hM a m).2) (.cons (.int _) (.cons (r.up (ex_cut e fun a m => (hM a m).1)) .nil))
def zpD (ds es : List PyData) : List PyData := (ds.zip es).map fun p => PyData.tuple [p.1, p.2]
theorem zpD_get {i : Nat} {d : PyData} (h : (zpD ds es)[i]? = some d) : ∃ x y, ds[i]? = some x ∧ es[i]? = some y ∧ d = .tuple [x, y] := by
  unfold zpD at h
  rw [List.getElem?_map] at h
  cases e : (ds.zip es)[i]? with
  | none => rw [e] at h; cases h
  | some x =>
    rw [e] at h
    obtain ⟨h1, h2⟩ := List.getElem?_zip_eq_some.mp e
    exact ⟨x.1, x.2, h1, h2, (Option.some.inj h).symm⟩
theorem zpD_len : (zpD ds es).length = min ds.length es.length := by simp [zpD]
theorem wk_zip (h : C a = some (.lst vs)) (t : IsAll K C vs ds) (h' : C b = some (.lst ws)) (t' : IsAll K C ws es) : Wk K (Itz K a b) C (zpD ds es) where
  go := fun i H hi e => by
    rw [zpD_len] at hi
    have hv : i < vs.length := by rw [t.len]; omega
    have hw : i < ws.length := by rw [t'.len]; omega
    exact ⟨vs, ws, vs[i], ws[i], SqL.of (e _ _ h), SqL.of (e _ _ h'), List.getElem?_eq_getElem hv, List.getElem?_eq_getElem hw⟩
  stop := fun H e => ⟨vs, ws, SqL.of (e _ _ h), SqL.of (e _ _ h'), by rw [zpD_len, t.len, t'.len]; omega⟩
  yld := fun i H x H' d hd e y => by
    obtain ⟨T, u, w, rfl, n, rfl, y, y'⟩ := y
    refine ⟨Ex.new n, fun M hM => ?_⟩
    obtain ⟨z, z', hz, hz', rfl⟩ := zpD_get hd
    obtain ⟨v, hv, r⟩ := t.get hz
    obtain ⟨v', hv', r'⟩ := t'.get hz'
    have q := y vs (SqL.of (e _ _ h))
    rw [hv] at q; cases q
    have q' := y' ws (SqL.of (e _ _ h'))
    rw [hv'] at q'; cases q'
    have ec := ex_cut e fun a m => (hM a m).1
    exact tup_new n (fun a m => (hM a m).2) (.cons (r.up ec) (.cons (r'.up ec) .nil))
end

section
variable {X : Cx} {B : Hp} {ss ss' ss'' : List SD} {e a b tg it : Expr} {es ifs : List Expr} {d x y z : PyData} {ds xs ys : List PyData} {pos p' p q : Pos} {o : Out} {st : Stmt} {sts rest : List Stmt}
theorem Ex.none {H H' : Hp} {l : Addr} (e : Ex H H') (h : H' l = none) : H l = none := Evl.fresh_back e h
theorem di_list (h : DE X B ss it (.list xs)) : DI X B ss tg it xs := fun Z M σ H hh R k =>
  ⟨_, pi_list (tl := cE X it) cE_ok, h Z M σ H hh _ fun v H1 e1 r1 => by
    cases r1 with
    | lst h1 t1 => exact ⟨_, rfl, ⟨_, SqL.of (cut_full _ _ h1)⟩, k _ _ H1 e1 (Ex.refl _) (wk_list h1 t1)⟩⟩
theorem di_tup (h : DE X B ss it (.tuple xs)) : DI X B ss tg it xs := fun Z M σ H hh R k =>
  ⟨_, pi_tup (tl := cE X it) cE_ok, h Z M σ H hh _ fun v H1 e1 r1 => by
    cases r1 with
    | tup h1 t1 => exact ⟨_, rfl, ⟨_, Evl.ex_t cut_full h1⟩, k _ _ H1 e1 (Ex.refl _) (wk_tup h1 t1)⟩⟩
theorem di_rng {n : Int} {m : Nat} (hm : X.mg "range" = none) (h : DE X B ss a (.int n)) (h0 : n = (m : Nat)) (h1 : m ≤ 1000000) (hg : Gl X "range" := by rfl) (hs : starEach [a] X.env = [(false, eval a X.env)] := by rfl) : DI X B ss tg (.Call (.Name "range" p) [a] [] q) (rgD 0 m) := fun Z M σ H hh R k =>
  ⟨_, pi_range1 (ta := cA X [a]) hg hm cA_ok hs, da_cons h da_nil hs Z M σ H hh _ fun vs H1 e1 r1 => by
    obtain ⟨v, rfl, r2⟩ := isAll1 r1
    refine ⟨n, by rw [r2.intv], by omega, by omega, ?_⟩
    subst h0
    rw [Int.toNat_natCast]
    exact k _ _ H1 e1 (Ex.refl _) wk_rng⟩
theorem di_enum {k : Nat} {tpos : Pos} {elts : List Expr} (hm : X.mg "enumerate" = none) (h : DE X B ss a (.list xs)) (hg : Gl X "enumerate" := by rfl) (hs : starEach [a] X.env = [(false, eval a X.env)] := by rfl) :
    DI X B ss (.Tuple elts k tpos) (.Call (.Name "enumerate" p) [a] [] q) (enD xs) := fun Z M σ H hh R kk =>
  ⟨_, pi_enum (ta := cA X [a]) hg hm cA_ok hs, da_cons h da_nil hs Z M σ H hh _ fun vs H1 e1 r1 => by
    obtain ⟨v, rfl, r2⟩ := isAll1 r1
    cases r2 with
    | lst h1 t1 => exact ⟨_, _, rfl, SqL.of (cut_full _ _ h1), kk _ _ H1 e1 (Ex.refl _) (wk_enum h1 t1)⟩⟩
theorem di_zip {k : Nat} {tpos : Pos} {elts : List Expr} (hm : X.mg "zip" = none) (h : DE X B ss a (.list xs)) (h' : DE X B ss b (.list ys)) (hg : Gl X "zip" := by rfl) (hs : starEach [a, b] X.env = (false, eval a X.env) :: starEach [b] X.env := by rfl)
    (hs2 : starEach [b] X.env = (false, eval b X.env) :: starEach [] X.env := by rfl) (hpl : (backTo q (starEach [b] X.env)).any (·.1) = false := by rfl) :
    DI X B ss (.Tuple elts k tpos) (.Call (.Name "zip" p) [a, b] [] q) (zpD xs ys) := fun Z M σ H hh R kk =>
  ⟨_, pi_zip (ta := cA X [a, b]) hg hm cA_ok hs hpl, da_cons h (da_cons h' da_nil hs2) hs Z M σ H hh _ fun vs H1 e1 r1 => by
    obtain ⟨v, w, rfl, r2, r3⟩ := isAll2 r1
    cases r2 with
    | lst h1 t1 =>
      cases r3 with
      | lst h2 t2 => exact ⟨_, _, _, _, rfl, SqL.of (cut_full _ _ h1), SqL.of (cut_full _ _ h2), kk _ _ H1 e1 (Ex.refl _) (wk_zip h1 t1 h2 t2)⟩⟩

/-! ### for -/
theorem ds_for (hp : PassesOwn (model X.prog X.w) X.A X.env X.xe) (hc : X.calm = true) (hi : DI X B ss tg it ds) (I : Nat → List SD → Prop) (h0 : I 0 ss)
    (hb : ∀ (i : Nat) (d : PyData) (ss' : List SD), ds[i]? = some d → I i ss' → ∃ is ss'', DG X tg d is ss' ss'' ∧ ∀ B1, Ex B B1 → DSs X B1 ss'' sts { nx := I (i + 1), rt := o.rt, bk := o.nx, ct := I (i + 1) })
    (hd : ∀ ss', I ds.length ss' → o.nx ss') (hs : ∀ x, foldedSetIterable it X.env x = pure x := by intro _; rfl) : DS X B ss (.For tg it sts [] pos) o := fun Z M σ H hh D m => by
  refine ⟨_, ps_for (wi := cI X tg it) (g := cG X tg) (tb := cB X sts) hp hc cI_ok cG_ok cB_ok hs, hi Z M σ H hh _ fun J C H1 e1 eC W => ?_⟩
  obtain ⟨B1, eB, eM, hh1⟩ := (hh.step e1).rebase
  have eCB : Ex C B1 := eC.trans eM
  have zC : ∀ a, Z a → C a = none := fun a z => Evl.fresh_back eC (cut_on (hh.zM a z))
  refine ⟨fun i n σ' H' => n = ds.length - i ∧ i ≤ ds.length ∧ ∃ ss' M', I i ss' ∧ Held X.K B1 Z M' σ' H' ss', ⟨_, rfl, Nat.zero_le _, ss, M, h0, hh1⟩, ?_⟩
  rintro i n σ' H' ⟨rfl, hle, ss', M', q, hh'⟩
  have eCH : Ex C H' := eCB.trans hh'.ex
  by_cases hlt : i < ds.length
  · refine .inr ⟨W.go i H' hlt eCH, fun σ2 H2 => ∃ ss2 M2, I (i + 1) ss2 ∧ Held X.K B1 Z M2 σ2 H2 ss2, fun σ2 H2 ⟨ss2, M2, q2, h2⟩ => ⟨ds.length - (i + 1), by omega, rfl, hlt, ss2, M2, q2, h2⟩, fun x H2 y => ?_⟩
    have hd' : ds[i]? = some ds[i] := List.getElem?_eq_getElem hlt
    obtain ⟨e2, r⟩ := W.yld i H' x H2 _ hd' eCH y
    have r' := r M' fun a ma => ⟨(hh'.mB a ma).elim (zC a) (Evl.fresh_back eCB), hh'.mH a ma⟩
    obtain ⟨is, ss2, g, body⟩ := hb i _ ss' hd' q
    refine g B1 Z M' σ' H2 x (hh'.step e2) r' _ fun σ2 _ h2 => ?_
    refine body B1 eB Z M' σ2 H2 h2 _ ⟨?_, ?_, ?_, ?_⟩
    · exact fun σ3 H3 ss3 M3 q3 h3 => ⟨ss3, M3, q3, h3⟩
    · exact fun v H3 d3 q3 e3 r3 => m.rt v H3 d3 q3 (eB.trans e3) r3
    · exact fun σ3 H3 ss3 M3 q3 h3 => m.nx σ3 H3 ss3 M3 q3 (h3.unbase eB hh.zB)
    · exact fun σ3 H3 ss3 M3 q3 h3 => ⟨ss3, M3, q3, h3⟩
  · have e : i = ds.length := by omega
    subst e
    exact .inl ⟨W.stop H' eCH, m.nx σ' H' ss' M' (hd ss' q) (hh'.unbase eB hh.zB)⟩

/-! ### comprehensions -/
def wipeS (ss : List SD) : List Nat → List SD
  | [] => ss
  | v :: vs => (wipeS ss vs).set v .no
theorem Held.wipe {K : PySem.W.Frag} {B : Hp} {Z M : Addr → Prop} {σ : L2.St} {H : Hp} (h : Held K B Z M σ H ss) : ∀ vs : List Nat, Held K B Z M (L2.wipe σ vs) H (wipeS ss vs)
  | [] => h
  | v :: vs => (h.wipe vs).forget v .none
theorem wipe_at (σ : L2.St) : ∀ (vs : List Nat) (j : Nat), (L2.wipe σ vs)[j]? = if j ∈ vs ∧ j < σ.length then some none else σ[j]?
  | [], j => by simp [L2.wipe]
  | v :: vs, j => by
    show ((L2.wipe σ vs).set v none)[j]? = _
    by_cases e : v = j
    · subst e
      by_cases hl : v < σ.length
      · rw [List.getElem?_set_self (by rw [wipe_length]; exact hl), if_pos ⟨List.mem_cons_self, hl⟩]
      · rw [if_neg (fun q => hl q.2), List.getElem?_eq_none (by simp [wipe_length]; omega), List.getElem?_eq_none (by omega)]
    · rw [List.getElem?_set_ne e, wipe_at σ vs j]
      have e2 : (j ∈ v :: vs) ↔ j ∈ vs := by
        rw [List.mem_cons]
        exact ⟨fun q => q.elim (fun z => absurd z.symm e) id, .inr⟩
      simp only [e2]
theorem wipe_off {σ σ' : L2.St} {is vs : List Nat} (h : Off is (L2.wipe σ vs) σ') (sub : ∀ i ∈ is, i ∈ vs) : L2.wipe σ' vs = L2.wipe σ vs := by
  have hl : σ'.length = σ.length := by rw [h.1, wipe_length]
  refine List.ext_getElem? fun j => ?_
  rw [wipe_at, wipe_at, hl]
  by_cases hj : j ∈ vs
  · by_cases hlt : j < σ.length
    · rw [if_pos ⟨hj, hlt⟩, if_pos ⟨hj, hlt⟩]
    · rw [if_neg (fun q => hlt q.2), if_neg (fun q => hlt q.2), List.getElem?_eq_none (by omega), List.getElem?_eq_none (by omega)]
  · rw [if_neg (fun q => hj q.1), if_neg (fun q => hj q.1), h.2 j (fun q => hj (sub j q)), wipe_at, if_neg (fun q => hj q.1)]
/-- the block of a comprehension -/
abbrev Blk (X : Cx) (scope : Scope) (s : Shared) (H : Hp) (C : Addr) (cl : List (Str × Addr)) (fp : List Addr) : Cx := X.blk s H scope (compEnvC scope cl C X.env) fp
def AllB (X : Cx) (scope : Scope) (P : Cx → Prop) : Prop := ∀ (s : Shared) (H : Hp) (C : Addr) (cl : List (Str × Addr)) (fp : List Addr), P (Blk X scope s H C cl fp)
/-- a comprehension with its parts -/
structure DC (X : Cx) (B : Hp) (ss : List SD) (elt tg it : Expr) (ifs : List Expr) (scope : Scope) (ds : List PyData) : Prop where
  ex : ∃ (own : List (Str × Nat)) (wi : TI) (g : TG) (tt : TT) (te : TE), PI X tg it wi ∧ BlkOk X.N X.env.scope scope own ∧ AllB X scope (fun Y => PG Y tg g) ∧ AllB X scope (fun Y => PTs Y ifs tt) ∧ AllB X scope (fun Y => PE Y elt te) ∧
    ∀ Z M σ H, Held X.K B Z M σ H ss → ∀ Q : VK, (∀ p vs H', H p = none → Ex H H' → H' p = some (.lst vs) → IsAll X.K (cut (fun a => M a ∨ a = p) H') vs ds → Q (.ref p) H') → tLc wi g tt te (own.map (·.2)) σ H Q
theorem dl_dc {scope : Scope} (hc : X.calm = true) (nd : X.N.Nodup) (h : DC X B ss a tg it ifs scope ds) (hs : ∀ x, foldedSetIterable it X.env x = pure x := by intro _; rfl) : DL X B ss (.ListComp a [⟨tg, it, ifs, 0⟩] scope pos) ds := fun Z M σ H hh Q k => by
  obtain ⟨own, wi, g, tt, te, h1, h2, h3, h4, h5, h6⟩ := h.ex
  exact ⟨_, pe_lc hc nd h1 h2 h3 h4 h5 hs, h6 Z M σ H hh Q k⟩
theorem ds_setC {x : Str} {scope : Scope} {spos : Pos} (i : Nat) (hc : X.calm = true) (nd : X.N.Nodup) (h : DC X B ss a tg it ifs scope ds) (k : o.nx (ss.set i (.m ds))) (hsw : swapsWith (.ListComp a [⟨tg, it, ifs, 0⟩] scope pos) (some (.Name x p')) spos.line X.env = pure true)
    (hi : X.N[i]? = some x := by rfl) (hyl : X.env.scope.names.lookup x = some .local := by rfl) (hs : ∀ x, foldedSetIterable it X.env x = pure x := by intro _; rfl) : DS X B ss (.Assign [.Name x p'] (.ListComp a [⟨tg, it, ifs, 0⟩] scope pos) spos) o := fun Z M σ H hh D m => by
  obtain ⟨own, wi, g, tt, te, h1, h2, h3, h4, h5, h6⟩ := h.ex
  exact ⟨_, ps_setLc hc nd hi hyl hsw h1 h2 h3 h4 h5 hs, h6 Z M σ H hh _ fun p vs H' n e1 hp r1 => m.nx _ _ _ _ k (hh.setNew i n e1 hp r1)⟩
/-- one test or none -/
def DTs (X : Cx) (B : Hp) (ss : List SD) (ifs : List Expr) (c : Bool) : Prop := match ifs with
  | [] => c = true
  | [f] => DT X B ss f c
  | _ => False
def cTs (X : Cx) (ifs : List Expr) : TT := match ifs with
  | [] => tYes
  | [f] => cT X f
  | _ => fun _ _ _ => False
theorem cTs_ok {X : Cx} : ∀ {ifs : List Expr}, PTs X ifs (cTs X ifs)
  | [] => pts_nil
  | [f] => pts_one cT_ok
  | f :: g :: r => ⟨fun _ _ _ _ _ _ h => h.elim⟩
/-- the data that are walked are those of the things us -/
theorem dc {α : Type} {scope : Scope} (own : List (Str × Nat)) (us : List α) (enc : α → PyData) (f : α → Bool) (v : α → PyData) (ssB : α → List SD) (hi : DI X B ss tg it (us.map enc)) (hsz : us.length < 100000) (ok : blkC X.N X.env.scope scope own = true)
    (hb : ∀ u ∈ us, AllB X scope fun Y => ∃ is, (∀ i ∈ is, i ∈ own.map (·.2)) ∧ DG Y tg (enc u) is (wipeS ss (own.map (·.2))) (ssB u) ∧ ∀ B1, Ex B B1 → DTs Y B1 (ssB u) ifs (f u) ∧ (f u = true → DE Y B1 (ssB u) a (v u))) : DC X B ss a tg it ifs scope ((us.filter f).map v) := by
  refine ⟨own, cI X tg it, fun x σ H Q => ∀ s H0 C cl fp, ∃ t, PG (Blk X scope s H0 C cl fp) tg t ∧ t x σ H Q, fun σ H Q => ∀ s H0 C cl fp, cTs (Blk X scope s H0 C cl fp) ifs σ H Q, fun σ H Q => ∀ s H0 C cl fp, cE (Blk X scope s H0 C cl fp) a σ H Q,
    cI_ok, blkOk_by ok, fun s H C cl fp => ⟨fun pins s1 σ H1 x u Q I r h => ?_⟩, fun s H C cl fp => ⟨fun pins s1 σ H1 Q I h => (cTs_ok (X := Blk X scope s H C cl fp)).run pins s1 σ H1 Q I (h s H C cl fp)⟩, fun s H C cl fp => ⟨fun pins s1 σ H1 Q I h => (cE_ok (X := Blk X scope s H C cl fp)).run pins s1 σ H1 Q I (h s H C cl fp)⟩, ?_⟩
  · obtain ⟨t, ht, q⟩ := h s H C cl fp
    exact ht.run pins s1 σ H1 x u Q I r q
  · intro Z M σ H hh Q k
    refine hi Z M σ H hh _ fun J C H1 e1 eC W => fun D hD => ?_
    have hh1 := hh.step e1
    obtain ⟨B1, eB, eM, hD1⟩ := (hh1.hide (xs := []) hD).rebase
    have eCB : Ex C B1 := (eC.trans (ex_hide hD)).trans eM
    have zC : ∀ a, Z a → C a = none := fun a z => Evl.fresh_back eC (cut_on (hh.zM a z))
    have nZ : ¬ Z D := fun z => (hh1.new hD).1 (hh.zM D z)
    have B1D : B1 D = none := (hD1.mB D (.inr rfl)).elim (fun z => absurd z nZ) id
    have nsl : ∀ (i : Nat) (ys : List PyData), ss[i]? = some (.m ys) → σ[i]? ≠ some (some (.ref D)) := fun i ys h1 h2 => by
      obtain ⟨xs, e⟩ := hh1.mH D (hh.mm i D ys h1 h2).1
      rw [hD] at e; cases e
    have hlen : (us.map enc).length = us.length := List.length_map _
    refine ⟨fun i n H' => n = us.length - i ∧ i ≤ us.length ∧ Ex H1 H' ∧ Held X.K B1 Z (fun a => M a ∨ a = D) σ H' ss ∧ ∃ acc, H' D = some (.lst acc) ∧ IsAll X.K (cut (fun a => M a ∨ a = D) H') acc (((us.take i).filter f).map v),
      ⟨_, rfl, Nat.zero_le _, Ex.new hD, hD1, [], upd_same, .nil⟩, ?_⟩
    rintro i n H' ⟨rfl, hle, eH, hh', acc, hA, rA⟩
    have eCH : Ex C H' := eCB.trans hh'.ex
    by_cases hlt : i < us.length
    · refine .inr ⟨W.go i H' (by rw [hlen]; exact hlt) eCH, fun H2 => Ex H1 H2 ∧ Held X.K B1 Z (fun a => M a ∨ a = D) σ H2 ss ∧ ∃ acc, H2 D = some (.lst acc) ∧ IsAll X.K (cut (fun a => M a ∨ a = D) H2) acc (((us.take (i + 1)).filter f).map v),
        fun H2 ⟨q1, q2, q3⟩ => ⟨us.length - (i + 1), by omega, rfl, hlt, q1, q2, q3⟩, fun x H2 y => ?_⟩
      have hd' : (us.map enc)[i]? = some (enc us[i]) := by rw [List.getElem?_map, List.getElem?_eq_getElem hlt]; rfl
      obtain ⟨e2, r⟩ := W.yld i H' x H2 _ hd' eCH y
      have r' := r (fun a => M a ∨ a = D) fun a ma => ⟨(hh'.mB a ma).elim (zC a) (Evl.fresh_back eCB), hh'.mH a ma⟩
      have hu : us[i] ∈ us := List.getElem_mem hlt
      have hh2 := hh'.step e2
      have eTake : us.take (i + 1) = us.take i ++ [us[i]] := (List.take_append_getElem hlt).symm
      intro s H0 Cc cl fp
      obtain ⟨is, sub, g, _⟩ := hb _ hu s H0 Cc cl fp
      refine g B1 Z _ _ H2 x (hh2.wipe _) r' _ fun σ2 off h2 => ⟨wipe_off off sub, ?_⟩
      intro s' H0' Cc' cl' fp'
      obtain ⟨_, _, _, body⟩ := hb _ hu s' H0' Cc' cl' fp'
      obtain ⟨ht, _⟩ := body B1 eB
      have fin : ∀ H3, Ex H2 H3 → (if f us[i] = true then (fun σ H Q => ∀ s H0 C cl fp, cE (Blk X scope s H0 C cl fp) a σ H Q : TE) σ2 H3 fun y H4 => ∃ acc, H4 D = some (.lst acc) ∧ acc.length < sizeLine ∧ (Ex H1 (upd H4 D (.lst (acc ++ [y]))) ∧ Held X.K B1 Z (fun a => M a ∨ a = D) σ (upd H4 D (.lst (acc ++ [y]))) ss ∧ ∃ acc', (upd H4 D (.lst (acc ++ [y]))) D = some (.lst acc') ∧ IsAll X.K (cut (fun a => M a ∨ a = D) (upd H4 D (.lst (acc ++ [y])))) acc' (((us.take (i + 1)).filter f).map v))
          else (Ex H1 H3 ∧ Held X.K B1 Z (fun a => M a ∨ a = D) σ H3 ss ∧ ∃ acc, H3 D = some (.lst acc) ∧ IsAll X.K (cut (fun a => M a ∨ a = D) H3) acc (((us.take (i + 1)).filter f).map v))) := fun H3 e3 => by
        by_cases hf : f us[i] = true
        · rw [if_pos hf]
          intro s'' H0'' Cc'' cl'' fp''
          obtain ⟨_, _, _, body'⟩ := hb _ hu s'' H0'' Cc'' cl'' fp''
          refine (body' B1 eB).2 hf Z _ σ2 H3 (h2.step e3) _ fun y H4 e4 r4 => ?_
          have e24 := (e2.trans e3).trans e4
          have hA4 := e24 _ _ hA
          refine ⟨acc, hA4, Evl.sz_lt ?_, (eH.trans e24).mut hD, (hh'.step e24).chg (.inr rfl) B1D nsl, acc ++ [y], upd_same, ?_⟩
          · have l1 := rA.len
            have l2 : (((us.take i).filter f).map v).length ≤ i := by
              rw [List.length_map]
              exact Nat.le_trans (List.length_filter_le _ _) (by rw [List.length_take]; omega)
            omega
          · rw [cut_upd (.inr rfl), eTake, List.filter_append, List.map_append, List.filter_cons, if_pos hf]
            exact (rA.up (cut_ex e24)).app (.cons r4 .nil)
        · rw [if_neg hf]
          refine ⟨eH.trans (e2.trans e3), hh'.step (e2.trans e3), acc, (e2.trans e3) _ _ hA, ?_⟩
          rw [eTake, List.filter_append, List.map_append, List.filter_cons, if_neg hf]
          show IsAll _ _ _ (_ ++ [])
          rw [List.append_nil]
          exact rA.up (cut_ex (e2.trans e3))
      match ifs, ht, body with
      | [], ht, _ =>
        have ht' : f us[i] = true := ht
        have q := fin H2 (Ex.refl H2)
        rw [if_pos ht'] at q
        exact q
      | [c], ht, _ =>
        have ht' : DT (Blk X scope s' H0' Cc' cl' fp') B1 (ssB us[i]) c (f us[i]) := ht
        exact ht' Z _ σ2 H2 h2 _ fun H3 e3 => fin H3 e3
      | _ :: _ :: _, ht, _ => exact (show False from ht).elim
    · have e : i = us.length := by omega
      subst e
      refine .inl ⟨by rw [← hlen]; exact W.stop H' eCH, k D acc H' (Evl.fresh_back e1 hD) (e1.trans eH) hA ?_⟩
      rw [List.take_length] at rA
      exact rA
end
end Hk
end
section
set_option Elab.async false
set_option linter.all false
set_option maxRecDepth 100000
set_option maxHeartbeats 2000000
namespace Hk
open PySem PySem.Spec PyProof.Rows L2
open Evl (Ex)

/-! ### a comprehension without a test -/
theorem dc_map {X : Cx} {B : Hp} {ss : List SD} {a tg it : Expr} {α : Type} {scope : Scope} (own : List (Str × Nat)) (us : List α) (enc : α → PyData) (v : α → PyData) (ssB : α → List SD) (hi : DI X B ss tg it (us.map enc)) (hsz : us.length < 100000) (ok : blkC X.N X.env.scope scope own = true)
    (hb : ∀ u ∈ us, AllB X scope fun Y => ∃ is, (∀ i ∈ is, i ∈ own.map (·.2)) ∧ DG Y tg (enc u) is (wipeS ss (own.map (·.2))) (ssB u) ∧ ∀ B1, Ex B B1 → DE Y B1 (ssB u) a (v u)) : DC X B ss a tg it [] scope (us.map v) := by
  have h := dc (ifs := []) own us enc (fun _ => true) v ssB hi hsz ok fun u hu s H C cl fp => by
    obtain ⟨is, h1, h2, h3⟩ := hb u hu s H C cl fp
    exact ⟨is, h1, h2, fun B1 e => ⟨rfl, fun _ => h3 B1 e⟩⟩
  have e : us.filter (fun _ => true) = us := List.filter_eq_self.mpr fun _ _ => rfl
  rw [e] at h
  exact h

/-! ### a def -/
def startS (ds : List PyData) (n : Nat) : List SD := ds.map .d ++ List.replicate n .no
theorem held_start {K : PySem.W.Frag} {N : List Str} {M : Addr → Prop} {H : Hp} {vs : List V} {ds : List PyData} (r : IsAll K (cut M H) vs ds) (hM : ∀ a, M a → ∃ xs, H a = some (.lst xs)) : Held K H M M (L2.start N vs) H (startS ds (N.length - ds.length)) := by
  have hl := r.len
  have nom : ∀ (i : Nat) (ys : List PyData), (startS ds (N.length - ds.length))[i]? ≠ some (.m ys) := fun i ys h => by
    unfold startS at h
    by_cases hi : i < ds.length
    · rw [List.getElem?_append_left (by simpa using hi), List.getElem?_map, List.getElem?_eq_getElem hi] at h
      cases h
    · rw [List.getElem?_append_right (by simpa using hi), List.getElem?_replicate] at h
      split at h <;> cases h
  refine ⟨Ex.refl H, fun a z => z, fun a z => .inl z, hM, hM, by unfold L2.start startS; simp [hl], fun i x sd a b => ?_, fun i p ys a _ => absurd a (nom i ys), fun i j p ys zs a _ _ _ => absurd a (nom i ys)⟩
  unfold startS at b
  unfold L2.start at a
  by_cases hi : i < ds.length
  · rw [List.getElem?_append_left (by simpa using hi), List.getElem?_map, List.getElem?_eq_getElem hi] at b
    rw [List.getElem?_append_left (by simpa [hl] using hi), List.getElem?_map] at a
    cases b
    obtain ⟨v, hv, rv⟩ := r.get (List.getElem?_eq_getElem hi)
    rw [hv] at a
    cases a
    exact ⟨v, rfl, rv⟩
  · rw [List.getElem?_append_right (by simpa using hi), List.getElem?_replicate] at b
    split at b <;> cases b
    trivial
theorem mk_fn {P : Program} {w : World} {K : PySem.W.Frag} {mg : Str → Option Value} {base : Heap} {x qual : Str} {params : Arguments} {body : List Stmt} {scope : Scope} {f : Addr} {fd : FuncData} {N ps : List Str} {k : Nat} {R : List PyData → PyData → Prop}
    (F : FunD K x qual params body scope [] [] f fd) (S : FnScope N ps scope) (hm : mg x = some (.ref f)) (hb : Binds K fd ps [])
    (hbody : ∀ (cdv : Value) (A : Around) (outer : List Env) (s : Shared) (H : Hp) (E : XK), Room k (A.deeper (envOfC qual scope s.heap.objs.size f cdv)) → ∀ ds d, R ds d → ds.length = ps.length →
      DSs (cxOf CX0 P w K mg base N qual scope f cdv A outer s H E).nox H (startS ds (N.length - ps.length)) body ⟨fun _ => False, fun d' => d' = d, fun _ => False, fun _ => False⟩) : FnIs P w K mg base x ps (k + 1) R := by
  refine ⟨f, fd, F.ok S (fun vs H Q E h => ?_) (fun cdv A outer s H vs Q E hr h => ?_), hm, F.kp, hb⟩
  · obtain ⟨M, ds, d, r, hl, _⟩ := h
    rw [r.len, hl]
  · obtain ⟨M, ds, d, r, hl, hM, hR, q⟩ := h
    have hh := held_start (N := N) r hM
    rw [hl] at hh
    obtain ⟨t, ht, hq⟩ := hbody cdv A outer s H E hr ds d hR hl M M _ H hh { nx := fun _ H' => Q .non H', rt := Q } ⟨fun _ _ _ _ z => z.elim, fun v H' d' e ex r => by subst e; exact q v H' ex r, fun _ _ _ _ z => z.elim, fun _ _ _ _ z => z.elim⟩
    exact ⟨t, ht.nox, hq⟩
theorem FnIs.up {P : Program} {w : World} {K : PySem.W.Frag} {mg : Str → Option Value} {base : Heap} {x : Str} {ps : List Str} {j k : Nat} {R : List PyData → PyData → Prop} (h : FnIs P w K mg base x ps j R) (l : j ≤ k) : FnIs P w K mg base x ps k R := by
  obtain ⟨f, fd, F, a, b, c⟩ := h.ex
  exact ⟨f, fd, F.mono l, a, b, c⟩
end Hk
end
section
set_option Elab.async false
set_option linter.all false
set_option maxRecDepth 100000
set_option maxHeartbeats 2000000
namespace Hk
open PySem PySem.Spec PyProof.Rows L2
open Evl (Ex)
/-! ### the text by places -/
def top (i : Nat) : Stmt := PySem.Challenge.pw_surehedge_k47_whole_costs_together.main.body.getD i (.Pass ⟨0, 0, 0, 0⟩)
abbrev st_number : Stmt := top 7
abbrev st_compare : Stmt := top 8
abbrev st_plus : Stmt := top 9
abbrev st_minus : Stmt := top 10
abbrev st_times : Stmt := top 11
abbrev st_divided : Stmt := top 12
abbrev st_total : Stmt := top 13
abbrev st_dot : Stmt := top 14
abbrev st_children : Stmt := top 16
abbrev st_gains_in : Stmt := top 17
abbrev st_gains : Stmt := top 18
abbrev st_scaled : Stmt := top 20
abbrev st_added : Stmt := top 21
abbrev st_begun : Stmt := top 22
abbrev st_first_place : Stmt := top 23
abbrev st_without : Stmt := top 24
abbrev st_without_equations : Stmt := top 25
abbrev st_parts_used : Stmt := top 26
abbrev st_without_variable : Stmt := top 27
abbrev st_eliminated : Stmt := top 28
abbrev st_limits : Stmt := top 29
abbrev st_lies_between : Stmt := top 30
abbrev st_greatest : Stmt := top 31
abbrev st_least : Stmt := top 32
abbrev st_chosen : Stmt := top 33
abbrev st_filled_in : Stmt := top 34
abbrev st_solve_system : Stmt := top 35
abbrev st_is_mean : Stmt := top 37
abbrev st_keep_means : Stmt := top 38
abbrev st_is_weights : Stmt := top 39
abbrev st_parts_of : Stmt := top 40
abbrev st_only_numbers : Stmt := top 41
abbrev st_comes_before : Stmt := top 42
abbrev st_put_in : Stmt := top 43
abbrev st_extreme_weights : Stmt := top 44
abbrev st_alone : Stmt := top 46
abbrev st_rule_rows : Stmt := top 47
abbrev st_win_rows : Stmt := top 48
abbrev st_opposite : Stmt := top 50
abbrev st_best_weights : Stmt := top 51
abbrev st_covering : Stmt := top 52
abbrev st_cost_of : Stmt := top 53
abbrev st_loan_on : Stmt := top 54
abbrev st_L_draws : Stmt := top 56
abbrev st_L_pool : Stmt := top 57
abbrev st_L_gcd : Stmt := top 58
abbrev st_L_number : Stmt := top 59
abbrev st_L_plus : Stmt := top 60
abbrev st_L_times : Stmt := top 61
abbrev st_L_minus : Stmt := top 62
abbrev st_L_over : Stmt := top 63
abbrev st_L_less : Stmt := top 64
abbrev st_L_sum : Stmt := top 65
abbrev st_L_dot : Stmt := top 66
abbrev st_L_is_whole : Stmt := top 67
abbrev st_L_is_number : Stmt := top 68
abbrev st_L_is_list : Stmt := top 69
abbrev st_L_children : Stmt := top 70
abbrev st_L_gains : Stmt := top 71
abbrev st_L_rule_keeps : Stmt := top 72
abbrev st_L_keeps_rules : Stmt := top 73
abbrev st_L_is_weights : Stmt := top 74
abbrev st_L_weights : Stmt := top 75
abbrev st_L_plain_weights : Stmt := top 76
abbrev st_L_parents : Stmt := top 77
abbrev st_L_node_prices : Stmt := top 78
abbrev st_L_market : Stmt := top 79
abbrev st_L_inner : Stmt := top 80
abbrev st_L_covers : Stmt := top 81
abbrev st_L_cost_right : Stmt := top 82
abbrev st_L_loan_right : Stmt := top 83
abbrev st_L_is_paper : Stmt := top 84
abbrev st_L_values : Stmt := top 85
abbrev st_law : Stmt := top 86
def dd_number : He.DefD := ⟨("number", none), "number", "number", defArgs st_number, defBody st_number, defScope st_number, [], []⟩
def dd_compare : He.DefD := ⟨("compare", none), "compare", "compare", defArgs st_compare, defBody st_compare, defScope st_compare, [], []⟩
def dd_plus : He.DefD := ⟨("plus", none), "plus", "plus", defArgs st_plus, defBody st_plus, defScope st_plus, [], []⟩
def dd_minus : He.DefD := ⟨("minus", none), "minus", "minus", defArgs st_minus, defBody st_minus, defScope st_minus, [], []⟩
def dd_times : He.DefD := ⟨("times", none), "times", "times", defArgs st_times, defBody st_times, defScope st_times, [], []⟩
def dd_divided : He.DefD := ⟨("divided", none), "divided", "divided", defArgs st_divided, defBody st_divided, defScope st_divided, [], []⟩
def dd_total : He.DefD := ⟨("total", none), "total", "total", defArgs st_total, defBody st_total, defScope st_total, [], []⟩
def dd_dot : He.DefD := ⟨("dot", none), "dot", "dot", defArgs st_dot, defBody st_dot, defScope st_dot, [], []⟩
def dd_children : He.DefD := ⟨("children", none), "children", "children", defArgs st_children, defBody st_children, defScope st_children, [], []⟩
def dd_gains_in : He.DefD := ⟨("gains_in", none), "gains_in", "gains_in", defArgs st_gains_in, defBody st_gains_in, defScope st_gains_in, [], []⟩
def dd_gains : He.DefD := ⟨("gains", none), "gains", "gains", defArgs st_gains, defBody st_gains, defScope st_gains, [], []⟩
def dd_scaled : He.DefD := ⟨("scaled", none), "scaled", "scaled", defArgs st_scaled, defBody st_scaled, defScope st_scaled, [], []⟩
def dd_added : He.DefD := ⟨("added", none), "added", "added", defArgs st_added, defBody st_added, defScope st_added, [], []⟩
def dd_begun : He.DefD := ⟨("begun", none), "begun", "begun", defArgs st_begun, defBody st_begun, defScope st_begun, [], []⟩
def dd_first_place : He.DefD := ⟨("first_place", none), "first_place", "first_place", defArgs st_first_place, defBody st_first_place, defScope st_first_place, [], []⟩
def dd_without : He.DefD := ⟨("without", none), "without", "without", defArgs st_without, defBody st_without, defScope st_without, [], []⟩
def dd_without_equations : He.DefD := ⟨("without_equations", none), "without_equations", "without_equations", defArgs st_without_equations, defBody st_without_equations, defScope st_without_equations, [], []⟩
def dd_parts_used : He.DefD := ⟨("parts_used", none), "parts_used", "parts_used", defArgs st_parts_used, defBody st_parts_used, defScope st_parts_used, [], []⟩
def dd_without_variable : He.DefD := ⟨("without_variable", none), "without_variable", "without_variable", defArgs st_without_variable, defBody st_without_variable, defScope st_without_variable, [], []⟩
def dd_eliminated : He.DefD := ⟨("eliminated", none), "eliminated", "eliminated", defArgs st_eliminated, defBody st_eliminated, defScope st_eliminated, [], []⟩
def dd_limits : He.DefD := ⟨("limits", none), "limits", "limits", defArgs st_limits, defBody st_limits, defScope st_limits, [], []⟩
def dd_lies_between : He.DefD := ⟨("lies_between", none), "lies_between", "lies_between", defArgs st_lies_between, defBody st_lies_between, defScope st_lies_between, [], []⟩
def dd_greatest : He.DefD := ⟨("greatest", none), "greatest", "greatest", defArgs st_greatest, defBody st_greatest, defScope st_greatest, [], []⟩
def dd_least : He.DefD := ⟨("least", none), "least", "least", defArgs st_least, defBody st_least, defScope st_least, [], []⟩
def dd_chosen : He.DefD := ⟨("chosen", none), "chosen", "chosen", defArgs st_chosen, defBody st_chosen, defScope st_chosen, [], []⟩
def dd_filled_in : He.DefD := ⟨("filled_in", none), "filled_in", "filled_in", defArgs st_filled_in, defBody st_filled_in, defScope st_filled_in, [], []⟩
def dd_solve_system : He.DefD := ⟨("solve_system", none), "solve_system", "solve_system", defArgs st_solve_system, defBody st_solve_system, defScope st_solve_system, [], []⟩
def dd_is_mean : He.DefD := ⟨("is_mean", none), "is_mean", "is_mean", defArgs st_is_mean, defBody st_is_mean, defScope st_is_mean, [], []⟩
def dd_keep_means : He.DefD := ⟨("keep_means", none), "keep_means", "keep_means", defArgs st_keep_means, defBody st_keep_means, defScope st_keep_means, [], []⟩
def dd_is_weights : He.DefD := ⟨("is_weights", none), "is_weights", "is_weights", defArgs st_is_weights, defBody st_is_weights, defScope st_is_weights, [], [("positive", .bl false)]⟩
def dd_parts_of : He.DefD := ⟨("parts_of", none), "parts_of", "parts_of", defArgs st_parts_of, defBody st_parts_of, defScope st_parts_of, [], []⟩
def dd_only_numbers : He.DefD := ⟨("only_numbers", none), "only_numbers", "only_numbers", defArgs st_only_numbers, defBody st_only_numbers, defScope st_only_numbers, [], []⟩
def dd_comes_before : He.DefD := ⟨("comes_before", none), "comes_before", "comes_before", defArgs st_comes_before, defBody st_comes_before, defScope st_comes_before, [], []⟩
def dd_put_in : He.DefD := ⟨("put_in", none), "put_in", "put_in", defArgs st_put_in, defBody st_put_in, defScope st_put_in, [], []⟩
def dd_extreme_weights : He.DefD := ⟨("extreme_weights", none), "extreme_weights", "extreme_weights", defArgs st_extreme_weights, defBody st_extreme_weights, defScope st_extreme_weights, [], []⟩
def dd_alone : He.DefD := ⟨("alone", none), "alone", "alone", defArgs st_alone, defBody st_alone, defScope st_alone, [], []⟩
def dd_rule_rows : He.DefD := ⟨("rule_rows", none), "rule_rows", "rule_rows", defArgs st_rule_rows, defBody st_rule_rows, defScope st_rule_rows, [], []⟩
def dd_win_rows : He.DefD := ⟨("win_rows", none), "win_rows", "win_rows", defArgs st_win_rows, defBody st_win_rows, defScope st_win_rows, [], []⟩
def dd_opposite : He.DefD := ⟨("opposite", none), "opposite", "opposite", defArgs st_opposite, defBody st_opposite, defScope st_opposite, [], []⟩
def dd_best_weights : He.DefD := ⟨("best_weights", none), "best_weights", "best_weights", defArgs st_best_weights, defBody st_best_weights, defScope st_best_weights, [], []⟩
def dd_covering : He.DefD := ⟨("covering", none), "covering", "covering", defArgs st_covering, defBody st_covering, defScope st_covering, [], []⟩
def dd_cost_of : He.DefD := ⟨("cost_of", none), "cost_of", "cost_of", defArgs st_cost_of, defBody st_cost_of, defScope st_cost_of, [], []⟩
def dd_loan_on : He.DefD := ⟨("loan_on", none), "loan_on", "loan_on", defArgs st_loan_on, defBody st_loan_on, defScope st_loan_on, [], []⟩
def dd_L_draws : He.DefD := ⟨("_law_draws", none), "_law_draws", "_law_draws", defArgs st_L_draws, defBody st_L_draws, defScope st_L_draws, [], []⟩
def dd_L_pool : He.DefD := ⟨("_law_pool", none), "_law_pool", "_law_pool", defArgs st_L_pool, defBody st_L_pool, defScope st_L_pool, [], []⟩
def dd_L_gcd : He.DefD := ⟨("_law_gcd", none), "_law_gcd", "_law_gcd", defArgs st_L_gcd, defBody st_L_gcd, defScope st_L_gcd, [], []⟩
def dd_L_number : He.DefD := ⟨("_law_number", none), "_law_number", "_law_number", defArgs st_L_number, defBody st_L_number, defScope st_L_number, [], []⟩
def dd_L_plus : He.DefD := ⟨("_law_plus", none), "_law_plus", "_law_plus", defArgs st_L_plus, defBody st_L_plus, defScope st_L_plus, [], []⟩
def dd_L_times : He.DefD := ⟨("_law_times", none), "_law_times", "_law_times", defArgs st_L_times, defBody st_L_times, defScope st_L_times, [], []⟩
def dd_L_minus : He.DefD := ⟨("_law_minus", none), "_law_minus", "_law_minus", defArgs st_L_minus, defBody st_L_minus, defScope st_L_minus, [], []⟩
def dd_L_over : He.DefD := ⟨("_law_over", none), "_law_over", "_law_over", defArgs st_L_over, defBody st_L_over, defScope st_L_over, [], []⟩
def dd_L_less : He.DefD := ⟨("_law_less", none), "_law_less", "_law_less", defArgs st_L_less, defBody st_L_less, defScope st_L_less, [], []⟩
def dd_L_sum : He.DefD := ⟨("_law_sum", none), "_law_sum", "_law_sum", defArgs st_L_sum, defBody st_L_sum, defScope st_L_sum, [], []⟩
def dd_L_dot : He.DefD := ⟨("_law_dot", none), "_law_dot", "_law_dot", defArgs st_L_dot, defBody st_L_dot, defScope st_L_dot, [], []⟩
def dd_L_is_whole : He.DefD := ⟨("_law_is_whole", none), "_law_is_whole", "_law_is_whole", defArgs st_L_is_whole, defBody st_L_is_whole, defScope st_L_is_whole, [], []⟩
def dd_L_is_number : He.DefD := ⟨("_law_is_number", none), "_law_is_number", "_law_is_number", defArgs st_L_is_number, defBody st_L_is_number, defScope st_L_is_number, [], []⟩
def dd_L_is_list : He.DefD := ⟨("_law_is_list", none), "_law_is_list", "_law_is_list", defArgs st_L_is_list, defBody st_L_is_list, defScope st_L_is_list, [], []⟩
def dd_L_children : He.DefD := ⟨("_law_children", none), "_law_children", "_law_children", defArgs st_L_children, defBody st_L_children, defScope st_L_children, [], []⟩
def dd_L_gains : He.DefD := ⟨("_law_gains", none), "_law_gains", "_law_gains", defArgs st_L_gains, defBody st_L_gains, defScope st_L_gains, [], []⟩
def dd_L_rule_keeps : He.DefD := ⟨("_law_rule_keeps", none), "_law_rule_keeps", "_law_rule_keeps", defArgs st_L_rule_keeps, defBody st_L_rule_keeps, defScope st_L_rule_keeps, [], []⟩
def dd_L_keeps_rules : He.DefD := ⟨("_law_keeps_rules", none), "_law_keeps_rules", "_law_keeps_rules", defArgs st_L_keeps_rules, defBody st_L_keeps_rules, defScope st_L_keeps_rules, [], []⟩
def dd_L_is_weights : He.DefD := ⟨("_law_is_weights", none), "_law_is_weights", "_law_is_weights", defArgs st_L_is_weights, defBody st_L_is_weights, defScope st_L_is_weights, [], []⟩
def dd_L_weights : He.DefD := ⟨("_law_weights", none), "_law_weights", "_law_weights", defArgs st_L_weights, defBody st_L_weights, defScope st_L_weights, [], []⟩
def dd_L_plain_weights : He.DefD := ⟨("_law_plain_weights", none), "_law_plain_weights", "_law_plain_weights", defArgs st_L_plain_weights, defBody st_L_plain_weights, defScope st_L_plain_weights, [], []⟩
def dd_L_parents : He.DefD := ⟨("_law_parents", none), "_law_parents", "_law_parents", defArgs st_L_parents, defBody st_L_parents, defScope st_L_parents, [], []⟩
def dd_L_node_prices : He.DefD := ⟨("_law_node_prices", none), "_law_node_prices", "_law_node_prices", defArgs st_L_node_prices, defBody st_L_node_prices, defScope st_L_node_prices, [], []⟩
def dd_L_market : He.DefD := ⟨("_law_market", none), "_law_market", "_law_market", defArgs st_L_market, defBody st_L_market, defScope st_L_market, [], []⟩
def dd_L_inner : He.DefD := ⟨("_law_inner", none), "_law_inner", "_law_inner", defArgs st_L_inner, defBody st_L_inner, defScope st_L_inner, [], []⟩
def dd_L_covers : He.DefD := ⟨("_law_covers", none), "_law_covers", "_law_covers", defArgs st_L_covers, defBody st_L_covers, defScope st_L_covers, [], []⟩
def dd_L_cost_right : He.DefD := ⟨("_law_cost_right", none), "_law_cost_right", "_law_cost_right", defArgs st_L_cost_right, defBody st_L_cost_right, defScope st_L_cost_right, [], []⟩
def dd_L_loan_right : He.DefD := ⟨("_law_loan_right", none), "_law_loan_right", "_law_loan_right", defArgs st_L_loan_right, defBody st_L_loan_right, defScope st_L_loan_right, [], []⟩
def dd_L_is_paper : He.DefD := ⟨("_law_is_paper", none), "_law_is_paper", "_law_is_paper", defArgs st_L_is_paper, defBody st_L_is_paper, defScope st_L_is_paper, [], []⟩
def dd_L_values : He.DefD := ⟨("_law_values", none), "_law_values", "_law_values", defArgs st_L_values, defBody st_L_values, defScope st_L_values, [], []⟩
def dd_law : He.DefD := ⟨("law", none), "law", "law", defArgs st_law, defBody st_law, defScope st_law, [], []⟩
def fnL : List He.DefD := [dd_number, dd_compare, dd_plus, dd_minus, dd_times, dd_divided, dd_total, dd_dot, dd_children, dd_gains_in, dd_gains, dd_scaled, dd_added, dd_begun, dd_first_place, dd_without, dd_without_equations, dd_parts_used, dd_without_variable, dd_eliminated, dd_limits, dd_lies_between, dd_greatest, dd_least, dd_chosen, dd_filled_in, dd_solve_system, dd_is_mean, dd_keep_means, dd_is_weights, dd_parts_of, dd_only_numbers, dd_comes_before, dd_put_in, dd_extreme_weights, dd_alone, dd_rule_rows, dd_win_rows, dd_opposite, dd_best_weights, dd_covering, dd_cost_of, dd_loan_on, dd_L_draws, dd_L_pool, dd_L_gcd, dd_L_number, dd_L_plus, dd_L_times, dd_L_minus, dd_L_over, dd_L_less, dd_L_sum, dd_L_dot, dd_L_is_whole, dd_L_is_number, dd_L_is_list, dd_L_children, dd_L_gains, dd_L_rule_keeps, dd_L_keeps_rules, dd_L_is_weights, dd_L_weights, dd_L_plain_weights, dd_L_parents, dd_L_node_prices, dd_L_market, dd_L_inner, dd_L_covers, dd_L_cost_right, dd_L_loan_right, dd_L_is_paper, dd_L_values, dd_law]
def freeL : List Str := ["len", "range", "zip", "enumerate", "int", "abs", "sum", "any", "all", "list", "isinstance", "bool", "tuple"]
structure Top (K : PySem.W.Frag) (mg : Str → Option Value) : Prop where
  fn : ∀ (i : Nat) (d : He.DefD), fnL[i]? = some d → ∃ fd, FunD K d.name d.qual d.params d.body d.scope (d.dvs K) (d.kws K) (He.fAd K d.at_) fd
  glo : ∀ (i : Nat) (d : He.DefD), fnL[i]? = some d → mg d.name = some (.ref (He.fAd K d.at_))
  free : ∀ x ∈ freeL, mg x = none
  gcd : mg "gcd" = some (.builtin "math.gcd")
  nought : ∃ a, mg "NOUGHT" = some (.ref a) ∧ ∀ H, SqT K H a [.int 0, .int 1]
  one : ∃ a, mg "ONE" = some (.ref a) ∧ ∀ H, SqT K H a [.int 1, .int 1]
section
variable {P : Program} {w : World} {K : PySem.W.Frag} {mg : Str → Option Value} {base : Heap}
theorem mkD {d : He.DefD} {N ps : List Str} {k : Nat} {R : List PyData → PyData → Prop} (T : Top K mg) (i : Nat) (hi : fnL[i]? = some d) (h1 : d.dfl = []) (h2 : d.kwd = []) (S : FnScope N ps d.scope)
    (hb : ∀ (kV doc pm : Value) (an : Option Addr) (cdv ct : Value) (us : List Value), us.length = ps.length → bindArgs (PySem.W.fnOf d.name d.qual d.params d.body d.scope .none kV doc pm an cdv ct) ⟨us, []⟩ = pure (ps.zip us))
    (hbody : ∀ (f : Addr) (cdv : Value) (A : Around) (outer : List Env) (s : Shared) (H : Hp) (E : XK), Room k (A.deeper (envOfC d.qual d.scope s.heap.objs.size f cdv)) → ∀ ds x, R ds x → ds.length = ps.length →
      DSs (cxOf CX0 P w K mg base N d.qual d.scope f cdv A outer s H E).nox H (startS ds (N.length - ps.length)) d.body ⟨fun _ => False, fun d' => d' = x, fun _ => False, fun _ => False⟩) : FnIs P w K mg base d.name ps (k + 1) R := by
  obtain ⟨fd, F⟩ := T.fn i d hi
  have e1 : d.dvs K = [] := by unfold He.DefD.dvs; rw [h1]; rfl
  have e2 : d.kws K = [] := by unfold He.DefD.kws; rw [h2]; rfl
  rw [e1, e2] at F
  exact mk_fn F S (T.glo i d hi) (F.bindsN hb) (hbody _)
end
end Hk
end
section
set_option Elab.async false
set_option linter.all false
set_option maxRecDepth 100000
set_option maxHeartbeats 0
namespace Hk
open PySem PySem.Spec PyProof.Rows L2
/-! ### the head -/
def gcdB (K : PySem.W.Frag) : Bool := match PySem.W.nsIn K mainGlobals "gcd" with
  | some (some (.builtin x)) => decide (x = "math.gcd")
  | _ => false
def exB (K : PySem.W.Frag) : Bool := gcdB K && (He.eqO (PySem.W.nsIn K mainGlobals "NOUGHT") (some (some (.ref (He.ga K "NOUGHT")))) && (He.tupB K "NOUGHT" [.int 0, .int 1] && (He.eqO (PySem.W.nsIn K mainGlobals "ONE") (some (some (.ref (He.ga K "ONE")))) && He.tupB K "ONE" [.int 1, .int 1])))
def faL : List He.Fa := (fnL.map fun d => He.Fa.glo d.name) ++ (freeL.map fun x => He.Fa.free x)
def obsX (K : PySem.W.Frag) : He.AlD := ((He.obsD faL fnL K).1 && exB K, (He.obsD faL fnL K).2)
def SaysX (K : PySem.W.Frag) : Prop := obsX K = He.valD fnL
def obsXG (n : Nat) (g : Addr → Option Obj) : He.AlD := obsX (He.frG g (He.asD g n))
def hookX (n : Nat) : PySem.W.Hook where
  α := He.AlD
  obs := fun s => obsXG n s.heap.get?
  val := fun _ => He.valD fnL
  says := fun _ h => ∃ K : PySem.W.Frag, K.In h ∧ SaysX K
  of := fun _ _ e => ⟨_, He.frG_in, e⟩
  keeps := fun _ _ _ ⟨K, hK, c⟩ k => ⟨K, PySem.W.Frag.In.keeps hK k, c⟩
theorem obsXG_eq {n : Nat} {g : Addr → Option Obj} {s : Shared} (h : ∀ a, g a = s.heap.get? a) : obsXG n g = (hookX n).obs s := by
  have e : g = s.heap.get? := funext h
  rw [e] <;> rfl
theorem SaysX.d {K : PySem.W.Frag} (c : SaysX K) : He.SaysD faL fnL K ∧ exB K = true := by
  have c0 : obsX K = He.valD fnL := c
  have c1 : (obsX K).1 = true := by rw [c0]; rfl
  have c3 : obsX K = He.valD fnL := c
  have c2 : (obsX K).2 = (He.valD fnL).2 := by rw [c3]
  obtain ⟨h1, h2⟩ := He.ba (show ((He.obsD faL fnL K).1 && exB K) = true from c1)
  refine ⟨?_, h2⟩
  show He.obsD faL fnL K = He.valD fnL
  exact Prod.ext h1 c2
theorem Top.of {K : PySem.W.Frag} {h : Heap} {mg : Str → Option Value} (X : K.In h) (G : h.Ns mainGlobals mg) (c : SaysX K) : Top K mg := by
  obtain ⟨c1, c2⟩ := c.d
  obtain ⟨g1, c2⟩ := He.ba c2
  obtain ⟨g2, c2⟩ := He.ba c2
  obtain ⟨g3, c2⟩ := He.ba c2
  obtain ⟨g4, g5⟩ := He.ba c2
  have hfa : ∀ f ∈ faL, f.ok K = true := fun f hf => by
    obtain ⟨i, hi⟩ := List.getElem?_of_mem hf
    exact c1.fact i hi
  have hat : ∀ (i : Nat) (d : He.DefD), fnL[i]? = some d → He.fAd K d.at_ = He.ga K d.name := fun i d hi => by
    have hd : d ∈ fnL := List.mem_of_getElem? hi
    have : ∀ d ∈ fnL, d.at_ = (d.name, none) := by
      unfold fnL
      intro d hd
      simp only [List.mem_cons, List.not_mem_nil, or_false] at hd
      repeat (first | (rcases hd with hd | hd; (subst hd; rfl)) | (subst hd; rfl))
    rw [this d hd]
    rfl
  refine ⟨fun i d hi => c1.def_ i hi, fun i d hi => ?_, fun x hx => ?_, ?_, ⟨_, PySem.W.mg_of X G (He.eqO_ok g2), fun H => He.tupB_ok g3 H⟩, ⟨_, PySem.W.mg_of X G (He.eqO_ok g4), fun H => He.tupB_ok g5 H⟩⟩
  · rw [hat i d hi]
    exact He.glo_ok X G (hfa _ (List.mem_append_left _ (List.mem_map.mpr ⟨d, List.mem_of_getElem? hi, rfl⟩)))
  · exact He.free_ok X G (hfa _ (List.mem_append_right _ (List.mem_map.mpr ⟨x, hx, rfl⟩)))
  · unfold gcdB at g1
    cases q : PySem.W.nsIn K mainGlobals "gcd" with
    | none => rw [q] at g1; cases g1
    | some o =>
      rw [q] at g1
      cases o with
      | none => cases g1
      | some v =>
        cases v with
        | builtin x =>
          have e : x = "math.gcd" := of_decide_eq_true g1
          rw [e] at q
          exact PySem.W.mg_of X G q
        | _ => cases g1
abbrev Rr : PySem.W.OpenRow := PySem.W.OpenLaw.row PySem.Challenge.rw_surehedge_k47_whole_costs_together
abbrev hkX : PySem.W.Hook := hookX 2
def ob (s : PySem.W.SharedT) : He.AlD := obsXG 2 (HandSHeadRun.getT s)
theorem ob_eq (s : PySem.W.SharedT) : ob s = hkX.obs s.abs := obsXG_eq (HandSHeadRun.getT_eq s)
def looseL : List PySem.Str := (["HedgeError", "NoWeights", "NOUGHT", "ONE", "number", "compare", "plus", "minus", "times", "divided", "total", "dot"] : List PySem.Str) ++ (["children", "gains_in", "gains", "scaled", "added", "begun", "first_place", "without", "without_equations", "parts_used", "without_variable", "eliminated"] : List PySem.Str) ++ (["limits", "lies_between", "greatest", "least", "chosen", "filled_in", "solve_system", "is_mean", "keep_means", "is_weights", "parts_of", "only_numbers"] : List PySem.Str) ++ (["comes_before", "put_in", "extreme_weights", "alone", "rule_rows", "win_rows", "opposite", "best_weights", "covering", "cost_of", "loan_on", "_law_draws"] : List PySem.Str) ++ (["_law_pool", "_law_gcd", "_law_number", "_law_plus", "_law_times", "_law_minus", "_law_over", "_law_less", "_law_sum", "_law_dot", "_law_is_whole", "_law_is_number"] : List PySem.Str) ++ (["_law_is_list", "_law_children", "_law_gains", "_law_rule_keeps", "_law_keeps_rules", "_law_is_weights", "_law_weights", "_law_plain_weights", "_law_parents", "_law_node_prices", "_law_market", "_law_inner"] : List PySem.Str) ++ (["_law_covers", "_law_cost_right", "_law_loan_right", "_law_is_paper", "_law_values"] : List PySem.Str)
theorem run (w : World) : HandSHeadRun.RunEqI Rr (PySem.W.view Rr.prog [0, 86]) hkX ob 20000 looseL w := by
  unfold HandSHeadRun.RunEqI
  kernel_rfl
end Hk
end
section
set_option Elab.async false
set_option linter.all false
set_option maxRecDepth 100000
set_option maxHeartbeats 2000000
/-! zip of three lists -/
namespace Hk
open PySem PySem.Spec PyProof.Rows L2
open Evl (Ex)
/-- the lists at a, b and c as they stand at each turn, the items in new triples -/
def Itz3 (K : PySem.W.Frag) (a b c : Addr) : It :=
  ⟨fun i H => ∃ (xs ys zs : List V) (x y z : V), SqL K H a xs ∧ SqL K H b ys ∧ SqL K H c zs ∧ xs[i]? = some x ∧ ys[i]? = some y ∧ zs[i]? = some z,
    fun i H v H' => ∃ T x y z, v = .ref T ∧ H T = none ∧ H' = upd H T (.tup [x, y, z]) ∧ (∀ xs, SqL K H a xs → xs[i]? = some x) ∧ (∀ ys, SqL K H b ys → ys[i]? = some y) ∧ ∀ zs, SqL K H c zs → zs[i]? = some z,
    fun i H => ∃ xs ys zs : List V, SqL K H a xs ∧ SqL K H b ys ∧ SqL K H c zs ∧ (xs.length = i ∨ ys.length = i ∨ zs.length = i) ∧ i ≤ xs.length ∧ i ≤ ys.length ∧ i ≤ zs.length⟩
theorem turn_zip3 {P : Program} {w : World} {K : PySem.W.Frag} {elts : List Expr} {kk : Nat} {tpos : Pos} {a b c z TI TO i1 i2 i3 : Addr} (D : ZipSep3 z TI TO i1 i2 i3 [i1, a] [i2, b] [i3, c]) (na : a ≠ i1) (nb : b ≠ i2) (nc : c ≠ i3) :
    Turn P w K (.Tuple elts kk tpos) (Itz3 K a b c) [z, TI, TO, i1, i2, i3] z (fun i h => IsZip h z TI TO .none ∧ IsTupOf3 h TI (.ref i1) (.ref i2) (.ref i3) ∧ (∃ x y u, IsTupOf3 h TO x y u) ∧ h.IsListIter i1 a i ∧ h.IsListIter i2 b i ∧ h.IsListIter i3 c i) where
  mem := by simp
  obj := fun i h st d hd => by
    obtain ⟨hz, hTI, ⟨x, y, u, hTO⟩, ⟨o1, e1, _, d1⟩, ⟨o2, e2, _, d2⟩, ⟨o3, e3, _, d3⟩⟩ := st
    have e' : d = z ∨ d = TI ∨ d = TO ∨ d = i1 ∨ d = i2 ∨ d = i3 := by simpa using hd
    rcases e' with q | q | q | q | q | q
    · rw [q]; exact ⟨_, hz, fun v q => nomatch q⟩
    · rw [q]; exact ⟨_, hTI, fun v q => nomatch q⟩
    · rw [q]; exact ⟨_, hTO, fun v q => nomatch q⟩
    · rw [q]; exact ⟨o1, e1, fun v q => by rw [d1] at q; cases q⟩
    · rw [q]; exact ⟨o2, e2, fun v q => by rw [d2] at q; cases q⟩
    · rw [q]; exact ⟨o3, e3, fun v q => by rw [d3] at q; cases q⟩
  keep := fun i h h' st k => by
    obtain ⟨hz, hTI, ⟨x, y, u, hTO⟩, h1, h2, h3⟩ := st
    exact ⟨k z (by simp) _ hz, k TI (by simp) _ hTI, ⟨x, y, u, k TO (by simp) _ hTO⟩, h1.at fun o q => k i1 (by simp) o q, h2.at fun o q => k i2 (by simp) o q, h3.at fun o q => k i3 (by simp) o q⟩
  item := by
    intro X hP hw hK hc i pins s σ H E I hf st hg
    subst hP hw hK
    obtain ⟨hz, hTI, ⟨x0, y0, u0, hTO⟩, h1, h2, h3⟩ := st
    obtain ⟨xs, ys, zs, x, y, u, hqx, hqy, hqz, hx, hy, hzz⟩ := hg
    obtain ⟨its, rv, p, _⟩ := I.list hqx
    obtain ⟨its2, rv2, p2, _⟩ := I.list hqy
    obtain ⟨its3, rv3, p3, _⟩ := I.list hqz
    obtain ⟨v1, hv1, r1⟩ := rv.get hx
    obtain ⟨v2, hv2, r2⟩ := rv2.get hy
    obtain ⟨v3, hv3, r3⟩ := rv3.get hzz
    have hzl : z < s.heap.objs.size := Heap.lt_size hz
    have hh : X.A.in1.handled = none := I.ok.hd hc
    have l1 : i < its.toArray.size := by
      have := (List.getElem?_eq_some_iff.mp hv1).1
      simpa using this
    have l2 : i < its2.toArray.size := by
      have := (List.getElem?_eq_some_iff.mp hv2).1
      simpa using this
    have l3 : i < its3.toArray.size := by
      have := (List.getElem?_eq_some_iff.mp hv3).1
      simpa using this
    refine wpAny_pyNext_zipD3_item D (Draws.list hh i1 a na its.toArray) (Draws.list hh i2 b nb its2.toArray) (Draws.list hh i3 c nc its3.toArray) hz hTI hTO ⟨h1, p.isList⟩ ⟨h2, p2.isList⟩ ⟨h3, p3.isList⟩ l1 l2 l3 fun w1 w2 w3 h' tk y1 y2 y3 z' TO' d1 d2 d3 hT hsz hk => ?_
    have e1 : w1 = v1 := by
      have q : its[i]? = some w1 := by simpa using y1
      rw [hv1] at q; exact (Option.some.inj q).symm
    have e2 : w2 = v2 := by
      have q : its2[i]? = some w2 := by simpa using y2
      rw [hv2] at q; exact (Option.some.inj q).symm
    have e3 : w3 = v3 := by
      have q : its3[i]? = some w3 := by simpa using y3
      rw [hv3] at q; exact (Option.some.inj q).symm
    subst e1 e2 e3
    refine ⟨_, rfl, wpAny_letOwnedTupleGo_zip (s := { s with heap := h', toks := tk }) z' fun h'' z'' sb => ?_⟩
    have hT2 : h''.get? s.heap.objs.size = some { cls := .type "tuple", data := .seq #[w1, w2, w3] } := (sb.2 _ (Nat.ne_of_gt hzl)).trans hT
    have new : ObjOk X.prog X.w (upd H s.heap.objs.size (.tup [x, y, u])) h'' s.heap.objs.size (.tup [x, y, u]) :=
      ⟨by show 3 ≤ sizeLine; decide, [w1, w2, w3], .cons r1 (.cons r2 (.cons r3 .nil)), ⟨_, hT2, rfl, _, rfl⟩⟩
    have I1 : Inv X pins σ (upd H s.heap.objs.size (.tup [x, y, u])) { s with heap := h'', toks := tk } :=
      I.turnedNew (ch := [z, TI, TO, i1, i2, i3]) (fun c o hb q => (sb.2 c (fun q' => hb (by simp [q']))).trans (hk c o (fun q' => hb (by simp [q'])) (fun q' => hb (by simp [q'])) (fun q' => hb (by simp [q'])) (fun q' => hb (by simp [q'])) (fun q' => hb (by simp [q'])) q)) hf (Nat.le_refl _) new
    refine ⟨.ref s.heap.objs.size, _, I1, rfl, ⟨_, x, y, u, rfl, I.hok.fresh (Nat.le_refl _), rfl, fun l hl => by rw [I.list_inj hl hqx]; exact hx, fun l hl => by rw [I.list_inj hl hqy]; exact hy, fun l hl => by rw [I.list_inj hl hqz]; exact hzz⟩, ⟨z'', ?_, ⟨w1, w2, w3, ?_⟩, ?_, ?_, ?_⟩, fun c hcm => ?_⟩
    · exact (sb.2 _ D.TIz).trans (hk _ _ D.TIz D.TITO D.TIi1 D.TIi2 D.TIi3 hTI)
    · exact (sb.2 _ D.TOz).trans TO'
    · exact d1.1.at fun o q => (sb.2 _ (Ne.symm D.zi1)).trans q
    · exact d2.1.at fun o q => (sb.2 _ (Ne.symm D.zi2)).trans q
    · exact d3.1.at fun o q => (sb.2 _ (Ne.symm D.zi3)).trans q
    · have hlt : c < s.heap.objs.size := by
        have e' : c = z ∨ c = TI ∨ c = TO ∨ c = i1 ∨ c = i2 ∨ c = i3 := by simpa using hcm
        rcases e' with q | q | q | q | q | q
        · rw [q]; exact hzl
        · rw [q]; exact Heap.lt_size hTI
        · rw [q]; exact Heap.lt_size hTO
        · rw [q]; obtain ⟨_, e1, _⟩ := h1; exact Heap.lt_size e1
        · rw [q]; obtain ⟨_, e2, _⟩ := h2; exact Heap.lt_size e2
        · rw [q]; obtain ⟨_, e3, _⟩ := h3; exact Heap.lt_size e3
      rw [upd_ne (Nat.ne_of_lt hlt)]
      exact (hf c hcm).1
  done := by
    intro X hP hw hK hc i pins s σ H E I hf st hg
    subst hP hw hK
    obtain ⟨hz, hTI, ⟨x0, y0, u0, hTO⟩, h1, h2, h3⟩ := st
    obtain ⟨xs, ys, zs, hqx, hqy, hqz, hend, g1, g2, g3⟩ := hg
    obtain ⟨its, rv, p, _⟩ := I.list hqx
    obtain ⟨its2, rv2, p2, _⟩ := I.list hqy
    obtain ⟨its3, rv3, p3, _⟩ := I.list hqz
    have l1 := rv.length
    have l2 := rv2.length
    have l3 := rv3.length
    have hh : X.A.in1.handled = none := I.ok.hd hc
    exact wpAny_pyNext_zipD3_end D (Draws.list hh i1 a na its.toArray) (Draws.list hh i2 b nb its2.toArray) (Draws.list hh i3 c nc its3.toArray) hz hTI hTO ⟨h1, p.isList⟩ ⟨h2, p2.isList⟩ ⟨h3, p3.isList⟩ (by simp; omega) (by simp; omega) (by simp; omega) (by simp; omega) fun h' tk hk => ⟨rfl, I.turnedL (ch := [z, TI, TO, i1, i2, i3]) (fun c o hb q =>
      hk c o (fun q' => hb (by simp [q'])) (fun q' => hb (by simp [q'])) (fun q' => hb (by simp [q'])) (fun q' => hb (by simp [q'])) (fun q' => hb (by simp [q'])) q) hf⟩
  self := fun A i s Q E st h => wpAny_pyIter_zip st.1 h
def iZip3 (K : PySem.W.Frag) (ta : TA) : TI := fun σ H R => ta σ H fun vs H1 => ∃ a b c xs ys zs, vs = [.ref a, .ref b, .ref c] ∧ SqL K H1 a xs ∧ SqL K H1 b ys ∧ SqL K H1 c zs ∧ R (Itz3 K a b c) H1
theorem pi_zip3 {X : Cx} {e e2 e3 : Expr} {ta : TA} {p pos tpos : Pos} {elts : List Expr} {kk : Nat} (hg : Gl X "zip") (hm : X.mg "zip" = none) (ha : PA X [e, e2, e3] ta)
    (hs : starEach [e, e2, e3] X.env = (false, eval e X.env) :: starEach [e2, e3] X.env := by rfl) (hpl : (backTo pos (starEach [e2, e3] X.env)).any (·.1) = false := by rfl) :
    PI X (.Tuple elts kk tpos) (.Call (.Name "zip" p) [e, e2, e3] [] pos) (iZip3 X.K ta) := by
  refine ⟨fun pins s σ H R I h => ?_⟩
  refine Call_ (ld_blt I hg hm PyProof.Rows.boot_zip (PyProof.Rows.callWith_type1 (thn (ha.run pos pins s σ H _ I h) fun us s1 ⟨vs, H1, I1, r1, q1⟩ => ?_) hs hpl))
  obtain ⟨a, b, c, xs, ys, zs, ex, hqx, hqy, hqz, q⟩ := q1
  subst ex
  cases r1 with
  | cons r rr =>
    cases rr with
    | cons r' rr =>
      cases rr with
      | cons r'' rr =>
        cases rr
        cases r
        cases r'
        cases r''
        obtain ⟨its, rv, p1, _⟩ := I1.list hqx
        obtain ⟨its2, rv2, p2, _⟩ := I1.list hqy
        obtain ⟨its3, rv3, p3, _⟩ := I1.list hqz
        have la : a < s1.heap.objs.size := p1.lt
        have lb : b < s1.heap.objs.size := p2.lt
        have lc : c < s1.heap.objs.size := p3.lt
        refine zip_begins3 (begins_list a _) (begins_list b _) (begins_list c _) p1.isList p2.isList p3.isList fun h' hz hTI hTO h1 h2 h3 hsz hk => wpAny_pyIter_zip hz ?_
        have I2 : Inv X pins σ H1 { s1 with heap := h' } := I1.kept (t' := s1.toks) hk
        have D := zip_sep3 (N := s1.heap.objs.size) (fp1 := [a]) (fp2 := [b]) (fp3 := [c]) (by simpa using la) (by simpa using lb) (by simpa using lc)
        refine ⟨s1.heap.objs.size + 5, [s1.heap.objs.size + 5, s1.heap.objs.size + 3, s1.heap.objs.size + 4, s1.heap.objs.size, s1.heap.objs.size + 1, s1.heap.objs.size + 2], _, _, H1, rfl, I2, turn_zip3 D (Nat.ne_of_lt la) (Nat.ne_of_lt (Nat.lt_add_right 1 lb)) (Nat.ne_of_lt (Nat.lt_add_right 2 lc)), ⟨hz, hTI, ⟨_, _, _, hTO⟩, ⟨_, h1, rfl, rfl⟩, ⟨_, h2, rfl, rfl⟩, ⟨_, h3, rfl, rfl⟩⟩, fun c hcm => ?_, q⟩
        have e' : c = s1.heap.objs.size + 5 ∨ c = s1.heap.objs.size + 3 ∨ c = s1.heap.objs.size + 4 ∨ c = s1.heap.objs.size ∨ c = s1.heap.objs.size + 1 ∨ c = s1.heap.objs.size + 2 := by simpa using hcm
        have hle : s1.heap.objs.size ≤ c := by
          rcases e' with z | z | z | z | z | z
          · rw [z]; exact Nat.le_add_right _ _
          · rw [z]; exact Nat.le_add_right _ _
          · rw [z]; exact Nat.le_add_right _ _
          · rw [z]; exact Nat.le_refl _
          · rw [z]; exact Nat.le_add_right _ _
          · rw [z]; exact Nat.le_add_right _ _
        exact I1.fpOk hle (I1.hok.fresh hle)
def zp3D (ds es fs : List PyData) : List PyData := (ds.zip (es.zip fs)).map fun p => PyData.tuple [p.1, p.2.1, p.2.2]
theorem zp3D_get {ds es fs : List PyData} {i : Nat} {d : PyData} (h : (zp3D ds es fs)[i]? = some d) : ∃ x y z, ds[i]? = some x ∧ es[i]? = some y ∧ fs[i]? = some z ∧ d = .tuple [x, y, z] := by
  unfold zp3D at h
  rw [List.getElem?_map] at h
  cases e : (ds.zip (es.zip fs))[i]? with
  | none => rw [e] at h; cases h
  | some x =>
    rw [e] at h
    obtain ⟨h1, h2⟩ := List.getElem?_zip_eq_some.mp e
    obtain ⟨h3, h4⟩ := List.getElem?_zip_eq_some.mp h2
    exact ⟨x.1, x.2.1, x.2.2, h1, h3, h4, (Option.some.inj h).symm⟩
theorem zp3D_len {ds es fs : List PyData} : (zp3D ds es fs).length = min ds.length (min es.length fs.length) := by simp [zp3D]
theorem wk_zip3 {K : PySem.W.Frag} {C : Hp} {a b c : Addr} {vs ws us : List V} {ds es fs : List PyData} (h : C a = some (.lst vs)) (t : IsAll K C vs ds) (h' : C b = some (.lst ws)) (t' : IsAll K C ws es) (h'' : C c = some (.lst us)) (t'' : IsAll K C us fs) : Wk K (Itz3 K a b c) C (zp3D ds es fs) where
  go := fun i H hi e => by
    rw [zp3D_len] at hi
    have hv : i < vs.length := by rw [t.len]; omega
    have hw : i < ws.length := by rw [t'.len]; omega
    have hu : i < us.length := by rw [t''.len]; omega
    exact ⟨vs, ws, us, vs[i], ws[i], us[i], SqL.of (e _ _ h), SqL.of (e _ _ h'), SqL.of (e _ _ h''), List.getElem?_eq_getElem hv, List.getElem?_eq_getElem hw, List.getElem?_eq_getElem hu⟩
  stop := fun H e => ⟨vs, ws, us, SqL.of (e _ _ h), SqL.of (e _ _ h'), SqL.of (e _ _ h''), by rw [zp3D_len, t.len, t'.len, t''.len]; omega, by rw [zp3D_len, t.len]; omega, by rw [zp3D_len, t'.len]; omega, by rw [zp3D_len, t''.len]; omega⟩
  yld := fun i H x H' d hd e y => by
    obtain ⟨T, u, w, o, rfl, n, rfl, y, y', y''⟩ := y
    refine ⟨Ex.new n, fun M hM => ?_⟩
    obtain ⟨z, z', z'', hz, hz', hz'', rfl⟩ := zp3D_get hd
    obtain ⟨v, hv, r⟩ := t.get hz
    obtain ⟨v', hv', r'⟩ := t'.get hz'
    obtain ⟨v'', hv'', r''⟩ := t''.get hz''
    have q := y vs (SqL.of (e _ _ h))
    rw [hv] at q; cases q
    have q' := y' ws (SqL.of (e _ _ h'))
    rw [hv'] at q'; cases q'
    have q'' := y'' us (SqL.of (e _ _ h''))
    rw [hv''] at q''; cases q''
    have ec := ex_cut e fun a m => (hM a m).1
    exact tup_new n (fun a m => (hM a m).2) (.cons (r.up ec) (.cons (r'.up ec) (.cons (r''.up ec) .nil)))
theorem isAll3 {K : PySem.W.Frag} {H : Hp} {vs : List V} {x y z : PyData} (h : IsAll K H vs [x, y, z]) : ∃ v w u, vs = [v, w, u] ∧ Is K H v x ∧ Is K H w y ∧ Is K H u z := by
  cases h with
  | cons h1 h2 =>
    obtain ⟨w, u, rfl, h3, h4⟩ := isAll2 h2
    exact ⟨_, _, _, rfl, h1, h3, h4⟩
theorem di_zip3 {X : Cx} {B : Hp} {ss : List SD} {a b c : Expr} {xs ys zs : List PyData} {p q : Pos} {k : Nat} {tpos : Pos} {elts : List Expr} (hm : X.mg "zip" = none) (h : DE X B ss a (.list xs)) (h' : DE X B ss b (.list ys)) (h'' : DE X B ss c (.list zs)) (hg : Gl X "zip" := by rfl)
    (hs : starEach [a, b, c] X.env = (false, eval a X.env) :: starEach [b, c] X.env := by rfl) (hs2 : starEach [b, c] X.env = (false, eval b X.env) :: starEach [c] X.env := by rfl)
    (hs3 : starEach [c] X.env = (false, eval c X.env) :: starEach [] X.env := by rfl) (hpl : (backTo q (starEach [b, c] X.env)).any (·.1) = false := by rfl) :
    DI X B ss (.Tuple elts k tpos) (.Call (.Name "zip" p) [a, b, c] [] q) (zp3D xs ys zs) := fun Z M σ H hh R kk =>
  ⟨_, pi_zip3 (ta := cA X [a, b, c]) hg hm cA_ok hs hpl, da_cons h (da_cons h' (da_cons h'' da_nil hs3) hs2) hs Z M σ H hh _ fun vs H1 e1 r1 => by
    obtain ⟨v, w, u, rfl, r2, r3, r4⟩ := isAll3 r1
    cases r2 with
    | lst h1 t1 =>
      cases r3 with
      | lst h2 t2 =>
        cases r4 with
        | lst h3 t3 => exact ⟨_, _, _, _, _, _, rfl, SqL.of (cut_full _ _ h1), SqL.of (cut_full _ _ h2), SqL.of (cut_full _ _ h3), kk _ _ H1 e1 (Ex.refl _) (wk_zip3 h1 t1 h2 t2 h3 t3)⟩⟩
end Hk
end
section
set_option Elab.async false
set_option linter.all false
set_option maxRecDepth 100000
set_option maxHeartbeats 2000000
/-! the script, powers, join, isinstance -/
namespace Hk
open PySem PySem.Spec PyProof.Rows L2
open Evl (Ex)
def scrD (ns : List Int) : PyData := .dict (ns.map fun n => (PyData.int n, PyData.none))
theorem scr_is {K : PySem.W.Frag} {H : Hp} {a : Addr} {ns : List Int} (h : SqL K H a (ns.map V.int)) : Is K H (.ref a) (scrD ns) := .scr h rfl
theorem scr_inj {ns ms : List Int} (h : ns.map (fun n => (PyData.int n, PyData.none)) = ms.map (fun n => (PyData.int n, PyData.none))) : ns = ms := by
  induction ns generalizing ms with
  | nil => cases ms with
    | nil => rfl
    | cons m ms => cases h
  | cons n ns ih => cases ms with
    | nil => cases h
    | cons m ms =>
      rw [List.map_cons, List.map_cons] at h
      injection h with h1 h2
      injection h1 with h3 _
      injection h3 with h4
      rw [h4, ih h2]
theorem wk_scr {K : PySem.W.Frag} {C : Hp} {a : Addr} {ns : List Int} (h : SqL K C a (ns.map V.int)) : Wk K (Itl K a) C (ns.map .int) where
  go := fun i H hi e => by
    have hv : i < (ns.map V.int).length := by simpa using hi
    exact ⟨_, (ns.map V.int)[i], Evl.ex_l e h, List.getElem?_eq_getElem hv⟩
  stop := fun H e => ⟨_, Evl.ex_l e h, by simp⟩
  yld := fun i H x H' d hd e y => by
    obtain ⟨rfl, y⟩ := y
    refine ⟨Ex.refl _, fun M hM => ?_⟩
    have q := y _ (Evl.ex_l e h)
    rw [List.getElem?_map] at hd q
    cases e : ns[i]? with
    | none => rw [e] at hd; cases hd
    | some n =>
      rw [e] at hd q
      cases hd; cases q
      exact .int _
section
variable {X : Cx} {B : Hp} {ss : List SD} {e a b tg it : Expr} {pos p q : Pos} {x y : PyData}
theorem di_scr {ns : List Int} (h : DE X B ss it (scrD ns)) : DI X B ss tg it (ns.map .int) := fun Z M σ H hh R k =>
  ⟨_, pi_list (tl := cE X it) cE_ok, h Z M σ H hh _ fun v H1 e1 r1 => by
    unfold scrD at r1
    cases r1 with
    | scr h1 h2 =>
      have e := scr_inj h2
      subst e
      exact ⟨_, rfl, ⟨_, Evl.ex_l cut_full h1⟩, k _ _ H1 e1 (Ex.refl _) (wk_scr h1)⟩⟩
theorem de_pow {i j : Int} (ha : DE X B ss a (.int i)) (hb : DE X B ss b (.int j)) (hc : CPow i j) : DE X B ss (.BinOp a .Pow b pos) (.int (i ^ j.toNat)) := de_opI (f := fun i j => .int (i ^ j.toNat)) op_pow (fun i j H => .int _) ha hb hc
/-- z.join(texts) -/
theorem de_join {z : Str} {ts : List Str} {apos : Pos} (ho : DE X B ss a (.str z)) (he : DE X B ss e (.list (ts.map .str))) (hl : (ts.map (·.length)).sum + ts.length * z.length ≤ 16777216) (hs : starEach [e] X.env = [(false, eval e X.env)] := by rfl)
    (hbase : attributeBase a "join" X.env (eval a X.env) = eval a X.env := by rfl) (hline : (apos.endLine == pos.line) = true := by rfl) : DE X B ss (.Call (.Attribute a "join" apos) [e] [] pos) (.str (Txt.join z ts)) := fun Z M σ H hh Q k =>
  ⟨_, pe_join (to := cE X a) (te := cE X e) cE_ok cE_ok hs hbase hline, ho Z M σ H hh _ fun v H1 e1 r1 => ⟨⟨z, r1.strv⟩, he Z M σ H1 (hh.step e1) _ fun w H2 e2 r2 => by
    cases r2 with
    | lst h1 t1 =>
      rw [strs_in t1] at h1
      exact ⟨z, _, ts, r1.strv, rfl, .inl (SqL.of (cut_full _ _ h1)), hl, k _ H2 (e1.trans e2) (.str _)⟩⟩⟩
end
/-! ### what isinstance looks at -/
section
variable {K : PySem.W.Frag} {H : Hp} {v : V}
theorem ty_int {i : Int} (h : Is K H v (.int i)) : TyX K H v (.type "int") := by
  rw [h.intv]; exact .base (.int _)
theorem ty_list {ds : List PyData} (h : Is K H v (.list ds)) : TyX K H v (.type "list") := by
  cases h with
  | lst h1 _ => exact .base (.lst h1)
theorem ty_tuple {ds : List PyData} (h : Is K H v (.tuple ds)) : TyX K H v (.type "tuple") := by
  cases h with
  | tup h1 _ =>
    rcases h1 with (h1 | ⟨o, h1⟩) | ⟨o, its, n, h1, h2, _⟩
    · exact .base (.tup h1)
    · exact .fTuple h1
    · exact .kTuple h1 h2
end
end Hk
end
section
set_option linter.all false
set_option maxHeartbeats 1000000
/-! numbers -/
namespace Hq
def nn (n d : Int) : Int := if d < 0 then -n else n
def nd (d : Int) : Int := if d < 0 then -d else d
theorem nd_pos {d : Int} (h : d ≠ 0) : 0 < nd d := by unfold nd; split <;> omega
theorem nn_abs (n d : Int) : (nn n d).natAbs = n.natAbs := by unfold nn; split <;> simp
theorem nd_abs (d : Int) : (nd d).natAbs = d.natAbs := by unfold nd; split <;> simp
theorem num_eq (n d : Int) (h : d ≠ 0) : nn n d / ((Nat.gcd (nn n d).natAbs (nd d).natAbs : Nat) : Int) = (Rat.divInt n d).num := by
  rw [Rat.num_divInt, nn_abs, nd_abs]
  unfold nn Int.gcd
  rw [Nat.gcd_comm]
  by_cases h0 : d < 0
  · rw [if_pos h0, Int.sign_eq_neg_one_of_neg h0]; simp
  · rw [if_neg h0, Int.sign_eq_one_of_pos (by omega)]; simp
theorem den_eq (n d : Int) (h : d ≠ 0) : nd d / ((Nat.gcd (nn n d).natAbs (nd d).natAbs : Nat) : Int) = ((Rat.divInt n d).den : Int) := by
  rw [Rat.den_divInt, if_neg h, nn_abs, nd_abs]
  unfold Int.gcd
  rw [Nat.gcd_comm]
  have e : nd d = (d.natAbs : Int) := by unfold nd; split <;> omega
  rw [e]
  rfl
theorem gcd_pos {n d : Int} (h : d ≠ 0) : 0 < ((Nat.gcd (nn n d).natAbs (nd d).natAbs : Nat) : Int) := by
  have : 0 < Nat.gcd (nn n d).natAbs (nd d).natAbs := Nat.gcd_pos_of_pos_right _ (by rw [nd_abs]; omega)
  omega
theorem gcd_le {n d : Int} (h : d ≠ 0) : Nat.gcd (nn n d).natAbs (nd d).natAbs ≤ d.natAbs := by
  rw [nd_abs]
  exact Nat.gcd_le_right _ (by omega)
theorem add_eq (a b : Rat) : Rat.divInt (a.num * b.den + b.num * a.den) (a.den * b.den) = a + b := by
  rw [Rat.add_def', ← Rat.divInt_ofNat]; simp
theorem sub_eq (a b : Rat) : Rat.divInt (a.num * b.den - b.num * a.den) (a.den * b.den) = a - b := by
  rw [Rat.sub_def', ← Rat.divInt_ofNat]; simp
theorem mul_eq (a b : Rat) : Rat.divInt (a.num * b.num) (a.den * b.den) = a * b := by
  rw [Rat.mul_def', ← Rat.divInt_ofNat]; simp
theorem div_eq (a b : Rat) : Rat.divInt (a.num * b.den) (a.den * b.num) = a / b := by
  rw [Rat.div_def, Rat.inv_def, ← Rat.num_divInt_den a]
  rw [Rat.divInt_mul_divInt]
  simp [Rat.num_divInt_den]
theorem den_pos (a : Rat) : (0 : Int) < a.den := by have := a.den_nz; omega
theorem den_ne (a b : Rat) : ((a.den : Int) * b.den) ≠ 0 := Int.ne_of_gt (Int.mul_pos (den_pos a) (den_pos b))
theorem lt_eq (a b : Rat) : decide (a.num * b.den < b.num * a.den) = decide (a < b) := by simp [Rat.lt_iff]
/-- a number of so many signs at most -/
def Sm (k : Nat) (q : Rat) : Prop := q.num.natAbs < 2 ^ k ∧ q.den < 2 ^ k
theorem Sm.mono {j k : Nat} {q : Rat} (h : Sm j q) (l : j ≤ k) : Sm k q :=
  ⟨Nat.lt_of_lt_of_le h.1 (Nat.pow_le_pow_right (by decide) l), Nat.lt_of_lt_of_le h.2 (Nat.pow_le_pow_right (by decide) l)⟩
theorem den_abs (q : Rat) : ((q.den : Int)).natAbs = q.den := by simp
end Hq
end
section
set_option linter.all false
set_option maxHeartbeats 1000000
/-! the program as plain functions -/
namespace Hq
def getQ (xs : List Rat) (i : Nat) : Rat := xs.getD i 0
def cmp (a b : Rat) : Int := if a < b then -1 else if b < a then 1 else 0
def sumQ (xs : List Rat) : Rat := xs.foldl (· + ·) 0
def dotQ (a b : List Rat) : Rat := sumQ (List.zipWith (· * ·) a b)
/-- all sums on the way are small -/
def SumOk (xs : List Rat) : Prop := (∀ x ∈ xs, Sm 4400 x) ∧ ∀ i, i ≤ xs.length → Sm 4400 (sumQ (xs.take i))
def AllSm (k : Nat) (xs : List Rat) : Prop := ∀ x ∈ xs, Sm k x
/-- a line: its factors, its bound, its multipliers -/
structure Line where
  f : List Rat
  b : Rat
  m : List Rat
def LineSm (l : Line) : Prop := AllSm 1300 l.f ∧ Sm 3000 l.b ∧ AllSm 1300 l.m
/-- a line that an equation makes -/
def EqSm (l : Line) : Prop := AllSm 1300 l.f ∧ Sm 1300 l.b ∧ AllSm 1300 l.m
def scaledL (l : Line) (c : Rat) : Line := ⟨l.f.map (c * ·), c * l.b, l.m.map (c * ·)⟩
def addedL (l o : Line) : Line := ⟨List.zipWith (· + ·) l.f o.f, l.b + o.b, List.zipWith (· + ·) l.m o.m⟩
def firstPlace (n : Nat) (l : Line) : Option Nat := (List.range n).find? fun i => decide (getQ l.f i ≠ 0)
def withoutL (p : Nat) (e l : Line) : Line := if getQ l.f p = 0 then l else addedL l (scaledL e ((0 - getQ l.f p) / getQ e.f p))
def gauss (n : Nat) : List Line → List Line → List (Nat × Line) × List Line × List Line
  | [], others => ([], [], others)
  | e :: rest, others => match firstPlace n e with
    | none =>
      let r := gauss n rest others
      (r.1, e :: r.2.1, r.2.2)
    | some p =>
      let r := gauss n (rest.map (withoutL p e)) (others.map (withoutL p e))
      ((p, e) :: r.1, r.2.1, r.2.2)
  termination_by x => x.length
  decreasing_by all_goals simp
/-- the shape of a line -/
def Shp (n k : Nat) (l : Line) : Prop := l.f.length = n ∧ l.m.length = k
def gaussOk (n : Nat) : List Line → List Line → Prop
  | [], others => True
  | e :: rest, others => EqSm e ∧ (∀ l ∈ rest, EqSm l) ∧ (∀ l ∈ others, LineSm l) ∧ match firstPlace n e with
    | none => gaussOk n rest others
    | some p => gaussOk n (rest.map (withoutL p e)) (others.map (withoutL p e))
  termination_by x => x.length
  decreasing_by all_goals simp
def partsUsed (l : Line) (loose : List Nat) : Nat := (loose.filter fun p => decide (getQ l.m p ≠ 0)).length
def combine (p : Nat) (h l : Line) : Line := addedL (scaledL h (0 - getQ l.f p)) (scaledL l (getQ h.f p))
def above (p : Nat) (ls : List Line) : List Line := ls.filter fun l => decide (0 < getQ l.f p)
def below (p : Nat) (ls : List Line) : List Line := ls.filter fun l => decide (getQ l.f p < 0)
def noughts (p : Nat) (ls : List Line) : List Line := ls.filter fun l => decide (getQ l.f p = 0)
def pairs (p : Nat) (loose : List Nat) (steps : Nat) (as bs : List Line) : List Line := as.flatMap fun h => (bs.map (combine p h)).filter fun c => decide (partsUsed c loose ≤ steps + 2)
def elimStep (p : Nat) (loose : List Nat) (steps : Nat) (ls : List Line) : List Line := noughts p ls ++ pairs p loose steps (above p ls) (below p ls)
def stepsOf (p : Nat) (steps : Nat) (ls : List Line) : Nat := if (above p ls).isEmpty && (below p ls).isEmpty then steps else steps + 1
/-- behind so many places: the stages, the lines, the steps -/
def elim (loose : List Nat) (ls : List Line) : Nat → List (Nat × List Line × List Line) × List Line × Nat
  | 0 => ([], ls, 0)
  | p + 1 =>
    let r := elim loose ls p
    (r.1 ++ [(p, above p r.2.1, below p r.2.1)], elimStep p loose r.2.2 r.2.1, stepsOf p r.2.2 r.2.1)
def limits (p : Nat) (ls : List Line) (x : List Rat) : List Rat := ls.map fun l => (l.b - dotQ l.f x) / getQ l.f p
def between (v : Rat) (lows highs : List Rat) : Bool := lows.all (fun l => decide (l ≤ v)) && highs.all fun h => decide (v ≤ h)
def greatest : List Rat → Rat
  | [] => 0
  | x :: xs => (x :: xs).foldl (fun b y => if b < y then y else b) x
def least (xs : List Rat) : Rat := 0 - greatest (xs.map fun x => 0 - x)
def tried (lows highs : List Rat) : List Rat :=
  [0] ++ (if lows.isEmpty then [] else [greatest lows, greatest lows + 1]) ++ (if highs.isEmpty then [] else [least highs, least highs - 1]) ++ (if lows.isEmpty || highs.isEmpty then [] else [(greatest lows + least highs) / 2])
def chosen (lows highs : List Rat) : Rat := ((tried lows highs).find? fun v => between v lows highs).getD 0
def fillStage (x : List Rat) (s : Nat × List Line × List Line) : List Rat := x.set s.1 (chosen (limits s.1 s.2.2 x) (limits s.1 s.2.1 x))
def fillEq (x : List Rat) (s : Nat × Line) : List Rat := (x.set s.1 0).set s.1 ((s.2.b - dotQ s.2.f (x.set s.1 0)) / getQ s.2.f s.1)
def filledIn (n : Nat) (solved : List (Nat × Line)) (stages : List (Nat × List Line × List Line)) : List Rat :=
  solved.reverse.foldl fillEq (stages.reverse.foldl fillStage (List.replicate n 0))
/-- a row: its factors, whether it is an equation, its bound -/
structure RowQ where
  f : List Rat
  eq : Bool
  b : Rat
def unitM (n i : Nat) : List Rat := (List.range n).map fun k => if k = i then 1 else 0
def begunL (rows : List RowQ) : List (Line × Bool) := rows.zipIdx.map fun p => (⟨p.1.f, p.1.b, unitM rows.length p.2⟩, p.1.eq)
def eqsOf (rows : List RowQ) : List Line := ((begunL rows).filter (·.2)).map (·.1)
def othersOf (rows : List RowQ) : List Line := ((begunL rows).filter (!·.2)).map (·.1)
def looseOf (rows : List RowQ) : List Nat := (List.range rows.length).filter fun i => !((rows[i]?.map (·.eq)).getD true)
/-- markets -/
inductive Rule where
  | any | long | short | none_
  deriving DecidableEq
structure Node where
  par : Int
  g : Rat
  rules : List Rule
  pr : List Rat
  po : List Rat
structure Market where
  many : Nat
  nodes : List Node
def nodeAt (m : Market) (k : Nat) : Node := m.nodes.getD k ⟨-1, 1, [], [], []⟩
def kids (m : Market) (k : Nat) : List Nat := (List.range m.nodes.length).filter fun i => decide ((nodeAt m i).par = (k : Int))
def gainsIn (m : Market) (k c : Nat) : List Rat :=
  (List.range m.many).map fun a => (getQ (nodeAt m c).pr a + getQ (nodeAt m c).po a) - (nodeAt m k).g * getQ (nodeAt m k).pr a
def gains (m : Market) (k : Nat) : List (List Rat) := (kids m k).map (gainsIn m k)
def col (won : List (List Rat)) (a : Nat) : List Rat := won.map fun l => getQ l a
def isMean (rule : Rule) (q : Rat) : Bool := match rule with
  | .any => decide (q = 0)
  | .long => decide (q ≤ 0)
  | .short => decide (0 ≤ q)
  | .none_ => true
def keepMeans (m : Market) (k : Nat) (x : List Rat) : Bool := (nodeAt m k).rules.zipIdx.all fun p => isMean p.1 (dotQ x (col (gains m k) p.2))
def isWeights (m : Market) (k : Nat) (x : List Rat) : Bool :=
  (!(kids m k).isEmpty && decide (x.length = (kids m k).length)) && (decide (sumQ x = 1) && x.all fun q => decide (0 ≤ q)) && keepMeans m k x
def partsOf : List Nat → List (List Nat)
  | [] => [[]]
  | t => t.foldl (fun found x => found ++ found.map fun p => p ++ [x]) [[]]
def onlyLines (won : List (List Rat)) (some_ : List Nat) (tight : List Nat) : List Line :=
  ⟨some_.map fun _ => 1, 1, []⟩ :: tight.map fun a => ⟨some_.map fun c => getQ (won.getD c []) a, 0, []⟩
def spread (n : Nat) (some_ : List Nat) (x : List Rat) : List Rat := some_.zipIdx.foldl (fun acc p => acc.set p.1 (getQ x p.2)) (List.replicate n 0)
def onlyNumbers (m : Market) (k : Nat) (some_ tight : List Nat) : Option (List Rat) :=
  let r := gauss some_.length (onlyLines (gains m k) some_ tight) []
  if r.1.length < some_.length || r.2.1.any (fun l => decide (l.b ≠ 0)) then none
  else some (spread (gains m k).length some_ (filledIn some_.length r.1 []))
def comesBefore : List Rat → List Rat → Bool
  | a :: as, b :: bs => if a ≠ b then decide (a < b) else comesBefore as bs
  | _, _ => false
def putIn (lists : List (List Rat)) (one : List Rat) : List (List Rat) :=
  if one ∈ lists then lists else
    let before := lists.filter fun o => comesBefore o one
    before ++ [one] ++ lists.drop before.length
def always (m : Market) (k : Nat) : List Nat := ((nodeAt m k).rules.zipIdx.filter fun p => decide (p.1 = .any)).map (·.2)
def sometimes (m : Market) (k : Nat) : List Nat := ((nodeAt m k).rules.zipIdx.filter fun p => decide (p.1 = .long) || decide (p.1 = .short)).map (·.2)
def tryPut (m : Market) (k : Nat) (found : List (List Rat)) (s more : List Nat) : List (List Rat) :=
  if 0 < s.length && s.length ≤ 1 + (always m k).length + more.length then
    match onlyNumbers m k s (always m k ++ more) with
    | none => found
    | some x => if isWeights m k x then putIn found x else found
  else found
def extremes (m : Market) (k : Nat) : List (List Rat) :=
  (partsOf (List.range (kids m k).length)).foldl (fun found s => (partsOf (sometimes m k)).foldl (fun found more => tryPut m k found s more) found) []
def aloneQ (n a : Nat) (c : Rat) : List Rat := (List.range n).map fun i => if i = a then c else 0
def ruleRow (n : Nat) (p : Rule × Nat) : List RowQ := match p.1 with
  | .long => [⟨aloneQ n p.2 (-1), false, 0⟩]
  | .short => [⟨aloneQ n p.2 1, false, 0⟩]
  | .none_ => [⟨aloneQ n p.2 1, true, 0⟩]
  | .any => []
def ruleRows (m : Market) (k : Nat) : List RowQ := (nodeAt m k).rules.zipIdx.flatMap (ruleRow m.many)
def winRows (m : Market) (k : Nat) (bounds : List Rat) : List RowQ := ((gains m k).zip bounds).map fun p => ⟨p.1.map fun q => 0 - q, false, 0 - p.2⟩
def opposite (xs : List Rat) : List Rat := xs.map fun x => 0 - x
def bestOf (ls : List (List Rat)) (values : List Rat) : Option (List Rat) :=
  ls.foldl (fun best x => match best with
    | none => some x
    | some b => if dotQ b values < dotQ x values then some x else some b) none
def covRows (m : Market) (k : Nat) (values : List Rat) (wealth : Rat) : List RowQ :=
  ruleRows m k ++ winRows m k (values.map fun v => v - (nodeAt m k).g * wealth)
/-- a solution of rows without a strict one whose equations have the bound 0 -/
def solved (n : Nat) (rows : List RowQ) : Option (List Rat) :=
  let r := gauss n (eqsOf rows) (othersOf rows)
  let e := elim (looseOf rows) r.2.2 n
  if r.2.1.any (fun l => decide (l.b ≠ 0)) || e.2.1.any (fun l => decide (l.b < 0)) then none
  else some (filledIn n r.1 e.1)
end Hq
end
section
set_option linter.all false
set_option maxHeartbeats 1000000
set_option exponentiation.threshold 100000
/-! sizes of numbers -/
namespace Hq
theorem natAbs_div_le (a : Int) (g : Nat) : (a / (g : Int)).natAbs ≤ a.natAbs := by
  rcases Nat.eq_zero_or_pos g with h | h
  · subst h; simp
  · exact Int.natAbs_ediv_le_natAbs a g
theorem divInt_num_le (n d : Int) : (Rat.divInt n d).num.natAbs ≤ n.natAbs := by
  rw [Rat.num_divInt]
  refine Nat.le_trans (natAbs_div_le _ _) ?_
  rw [Int.natAbs_mul]
  have : d.sign.natAbs ≤ 1 := by rw [Int.natAbs_sign]; split <;> omega
  calc d.sign.natAbs * n.natAbs ≤ 1 * n.natAbs := Nat.mul_le_mul_right _ this
    _ = n.natAbs := Nat.one_mul _
theorem divInt_den_le (n d : Int) (h : d ≠ 0) : (Rat.divInt n d).den ≤ d.natAbs := by
  rw [Rat.den_divInt, if_neg h]
  exact Nat.div_le_self _ _
theorem Sm.of_divInt {n d : Int} {k : Nat} (h : d ≠ 0) (hn : n.natAbs < 2 ^ k) (hd : d.natAbs < 2 ^ k) : Sm k (Rat.divInt n d) :=
  ⟨Nat.lt_of_le_of_lt (divInt_num_le n d) hn, Nat.lt_of_le_of_lt (divInt_den_le n d h) hd⟩
theorem mul_lt2 {a b i j : Nat} (ha : a < 2 ^ i) (hb : b < 2 ^ j) : a * b < 2 ^ (i + j) := by
  rw [Nat.pow_add]; exact Nat.mul_lt_mul'' ha hb
theorem Sm.mul {j k : Nat} {a b : Rat} (ha : Sm j a) (hb : Sm k b) : Sm (j + k) (a * b) := by
  rw [← mul_eq]
  refine Sm.of_divInt (den_ne a b) ?_ ?_
  · rw [Int.natAbs_mul]; exact mul_lt2 ha.1 hb.1
  · rw [Int.natAbs_mul]; simp only [Int.natAbs_natCast]; exact mul_lt2 ha.2 hb.2
theorem Sm.div {j k : Nat} {a b : Rat} (ha : Sm j a) (hb : Sm k b) (h : b ≠ 0) : Sm (j + k) (a / b) := by
  rw [← div_eq]
  refine Sm.of_divInt (Int.mul_ne_zero (Int.ne_of_gt (den_pos a)) fun q => h (Rat.num_eq_zero.mp q)) ?_ ?_
  · rw [Int.natAbs_mul]; simp only [Int.natAbs_natCast]; exact mul_lt2 ha.1 hb.2
  · rw [Int.natAbs_mul]; simp only [Int.natAbs_natCast]; exact mul_lt2 ha.2 hb.1
theorem Sm.add {j k : Nat} {a b : Rat} (ha : Sm j a) (hb : Sm k b) : Sm (j + k + 1) (a + b) := by
  rw [← add_eq]
  have h1 : (a.num * b.den).natAbs < 2 ^ (j + k) := by rw [Int.natAbs_mul]; simp only [Int.natAbs_natCast]; exact mul_lt2 ha.1 hb.2
  have h2 : (b.num * a.den).natAbs < 2 ^ (j + k) := by rw [Int.natAbs_mul, Nat.add_comm j k]; simp only [Int.natAbs_natCast]; exact mul_lt2 hb.1 ha.2
  have h3 : a.den * b.den < 2 ^ (j + k) := mul_lt2 ha.2 hb.2
  have h4 : 2 ^ (j + k + 1) = 2 ^ (j + k) + 2 ^ (j + k) := by rw [Nat.pow_succ]; omega
  refine Sm.of_divInt (den_ne a b) ?_ ?_
  · have := Int.natAbs_add_le (a.num * b.den) (b.num * a.den)
    omega
  · rw [Int.natAbs_mul]; simp only [Int.natAbs_natCast]; omega
theorem Sm.neg {k : Nat} {a : Rat} (ha : Sm k a) : Sm k (-a) := ⟨by rw [Rat.neg_num, Int.natAbs_neg]; exact ha.1, by rw [Rat.neg_den]; exact ha.2⟩
theorem zero_sub (a : Rat) : (0 : Rat) - a = -a := by grind
theorem Sm.nsub {k : Nat} {a : Rat} (ha : Sm k a) : Sm k (0 - a) := by rw [zero_sub]; exact ha.neg
theorem Sm.sub {j k : Nat} {a b : Rat} (ha : Sm j a) (hb : Sm k b) : Sm (j + k + 1) (a - b) := by
  rw [Rat.sub_eq_add_neg]; exact ha.add hb.neg
theorem Sm.zero {k : Nat} (h : 0 < k) : Sm k 0 := ⟨by simpa using Nat.pow_pos (by decide), by
  show 1 < 2 ^ k
  exact Nat.lt_of_lt_of_le (by decide) (Nat.pow_le_pow_right (by decide) h)⟩
theorem Sm.one {k : Nat} (h : 0 < k) : Sm k 1 := ⟨by
  show 1 < 2 ^ k
  exact Nat.lt_of_lt_of_le (by decide) (Nat.pow_le_pow_right (by decide) h), by
  show 1 < 2 ^ k
  exact Nat.lt_of_lt_of_le (by decide) (Nat.pow_le_pow_right (by decide) h)⟩
theorem AllSm.mono {j k : Nat} {xs : List Rat} (h : AllSm j xs) (l : j ≤ k) : AllSm k xs := fun x hx => (h x hx).mono l
theorem AllSm.get {k : Nat} {xs : List Rat} (h : AllSm k xs) (h0 : 0 < k) (i : Nat) : Sm k (getQ xs i) := by
  unfold getQ
  rw [List.getD_eq_getElem?_getD]
  cases e : xs[i]? with
  | none => exact Sm.zero h0
  | some x => exact h x (List.mem_of_getElem? e)
theorem Rat.eq_iff (a b : Rat) : a = b ↔ a.num = b.num ∧ a.den = b.den := ⟨fun h => by rw [h]; exact ⟨rfl, rfl⟩, fun h => Rat.ext h.1 h.2⟩
end Hq
namespace Hq
/-- a value of a limit can be worked out -/
def LimOk (p : Nat) (l : Line) (x : List Rat) : Prop := LineSm l ∧ AllSm 4400 x ∧ SumOk (List.zipWith (· * ·) l.f x) ∧ Sm 4400 (l.b - dotQ l.f x) ∧ getQ l.f p ≠ 0 ∧ p < l.f.length ∧ l.f.length < 1000
def ChosenOk (lows highs : List Rat) : Prop := AllSm 4300 lows ∧ AllSm 4300 highs ∧ lows.length < 100000 ∧ highs.length < 100000 ∧ (lows ≠ [] → highs ≠ [] → Sm 4390 (greatest lows + least highs)) ∧ (lows ≠ [] → Sm 4390 (greatest lows + 1)) ∧ (highs ≠ [] → Sm 4390 (least highs - 1))
def fillOk1 : List Rat → List (Nat × List Line × List Line) → Prop
  | _, [] => True
  | x, s :: r => s.1 < x.length ∧ (∀ l ∈ s.2.1, LimOk s.1 l x) ∧ (∀ l ∈ s.2.2, LimOk s.1 l x) ∧ ChosenOk (limits s.1 s.2.2 x) (limits s.1 s.2.1 x) ∧ fillOk1 (fillStage x s) r
def fillOk2 : List Rat → List (Nat × Line) → Prop
  | _, [] => True
  | x, s :: r => s.1 < x.length ∧ LimOk s.1 s.2 (x.set s.1 0) ∧ fillOk2 (fillEq x s) r
def FillOk (n : Nat) (solved : List (Nat × Line)) (stages : List (Nat × List Line × List Line)) : Prop :=
  fillOk1 (List.replicate n 0) stages.reverse ∧ fillOk2 (stages.reverse.foldl fillStage (List.replicate n 0)) solved.reverse
theorem greatest_mem : ∀ {xs : List Rat}, xs ≠ [] → greatest xs ∈ xs
  | [], h => absurd rfl h
  | x :: xs, _ => by
    have gen : ∀ (ys : List Rat) (b : Rat), b ∈ x :: xs → (∀ y ∈ ys, y ∈ x :: xs) → ys.foldl (fun b y => if b < y then y else b) b ∈ x :: xs := by
      intro ys
      induction ys with
      | nil => intro b hb _; exact hb
      | cons y ys ih =>
        intro b hb hy
        refine ih _ ?_ (fun z hz => hy z (List.mem_cons_of_mem _ hz))
        show (if b < y then y else b) ∈ x :: xs
        split
        · exact hy y List.mem_cons_self
        · exact hb
    exact gen (x :: xs) x List.mem_cons_self (fun y hy => hy)
theorem least_neg_mem {xs : List Rat} (h : xs ≠ []) : least xs ∈ xs := by
  unfold least
  have h2 : xs.map (fun x => 0 - x) ≠ [] := by simpa using h
  obtain ⟨y, hy, e⟩ := List.mem_map.mp (greatest_mem h2)
  rw [← e]
  have : (0 : Rat) - (0 - y) = y := by grind
  rw [this]
  exact hy
end Hq
end
section
set_option Elab.async false
set_option linter.all false
set_option maxRecDepth 100000
set_option maxHeartbeats 2000000
namespace Hk
open PySem PySem.Spec PyProof.Rows L2
open Evl (Ex)
open Hq
/-! ### numbers -/
def num (q : Rat) : PyData := .tuple [.int q.num, .int q.den]
def R_number (ds : List PyData) (x : PyData) : Prop := ∃ n d : Int, ds = [.int n, .int d] ∧ d ≠ 0 ∧ d.natAbs < 2 ^ 9000 ∧ x = num (Rat.divInt n d)
section
variable {P : Program} {w : World} {K : PySem.W.Frag} {mg : Str → Option Value} {base : Heap}
theorem sc_number : FnScope ["n", "d", "common"] ["n", "d"] (defScope st_number) := ⟨rfl, rfl, rfl, by decide +kernel, rfl, by decide +kernel, by decide +kernel⟩
theorem fn_number (T : Top K mg) : FnIs P w K mg base "number" ["n", "d"] 1 R_number := by
  refine mkD (d := dd_number) T 0 rfl rfl rfl sc_number (fun _ _ _ _ _ _ us hl => match us, hl with | [_, _], _ => rfl) (fun f cdv A outer s H E hr ds x hR _ => ?_)
  obtain ⟨n, d, rfl, hd, hb, rfl⟩ := hR
  refine dss_cons (mid := fun s => s = [.d (.int (nn n d)), .d (.int (nd d)), .no]) (ds_if (dt_cmp cmp_lt (de_var 1 rfl) de_int) (fun h => dss_one (ds_par 0 1 rfl sc_number.nd (da_cons (de_neg (de_var 0 rfl)) (da_cons (de_neg (de_var 1 rfl)) da_nil)) rfl ?_)) (fun h => dss_nil ?_)) ?_
  · have h := of_decide_eq_true h
    show [SD.d (.int (-n)), SD.d (.int (-d)), SD.no] = _
    unfold nn nd
    rw [if_pos h, if_pos h]
  · have h := of_decide_eq_false h
    show [SD.d (.int n), SD.d (.int d), SD.no] = _
    unfold nn nd
    rw [if_neg h, if_neg h]
  · rintro ss' rfl
    have h1 := wide_div (i := nn n d) (gcd_pos (n := n) hd) (b := 9000) (by
      rw [Int.natAbs_natCast]; exact Nat.lt_of_le_of_lt (gcd_le hd) hb) (by decide) (by decide)
    have h2 := wide_div (i := nd d) (gcd_pos (n := n) hd) (b := 9000) (by
      rw [Int.natAbs_natCast]; exact Nat.lt_of_le_of_lt (gcd_le hd) hb) (by decide) (by decide)
    refine dss_seq (ds_set 2 sc_number.nd (de_gcd T.gcd (de_var 0 rfl) (de_var 1 rfl)) rfl) ?_
    refine dss_one (ds_ret (de_tup (da_cons (de_fdivW (de_var 0 rfl) (de_var 2 rfl) h1) (da_cons (de_fdivW (de_var 1 rfl) (de_var 2 rfl) h2) da_nil))) ?_)
    show PyData.tuple [.int _, .int _] = _
    rw [num_eq n d hd, den_eq n d hd]
    rfl
end
end Hk
end
section
set_option Elab.async false
set_option linter.all false
set_option maxRecDepth 100000
set_option maxHeartbeats 2000000
namespace Hk
open PySem PySem.Spec PyProof.Rows L2
open Evl (Ex)
open Hq
theorem sm_mul {a b : Int} {i j : Nat} (ha : a.natAbs < 2 ^ i) (hb : b.natAbs < 2 ^ j) (h0 : 0 < i) (h1 : 0 < j) (h : i + j ≤ 1000000) : CMulW a b := wide_mul ha hb h0 h1 h
theorem _root_.Hq.Sm.cn {k : Nat} {q r : Rat} (h : Sm k q) (h' : Sm k r) (h0 : 0 < k) (h1 : k ≤ 100000) : CMulW q.num r.den := wide_mul h.1 (by rw [den_abs]; exact h'.2) h0 h0 (by omega)
theorem _root_.Hq.Sm.nc {k : Nat} {q r : Rat} (h : Sm k q) (h' : Sm k r) (h0 : 0 < k) (h1 : k ≤ 100000) : CMulW q.den r.num := wide_mul (by rw [den_abs]; exact h.2) h'.1 h0 h0 (by omega)
theorem _root_.Hq.Sm.nn {k : Nat} {q r : Rat} (h : Sm k q) (h' : Sm k r) (h0 : 0 < k) (h1 : k ≤ 100000) : CMulW q.num r.num := wide_mul h.1 h'.1 h0 h0 (by omega)
theorem _root_.Hq.Sm.dd {k : Nat} {q r : Rat} (h : Sm k q) (h' : Sm k r) (h0 : 0 < k) (h1 : k ≤ 100000) : CMulW q.den r.den := wide_mul (by rw [den_abs]; exact h.2) (by rw [den_abs]; exact h'.2) h0 h0 (by omega)
set_option exponentiation.threshold 100000
theorem _root_.Hq.Sm.dlt {q r : Rat} (h : Sm 4400 q) (h' : Sm 4400 r) : ((q.den : Int) * r.den).natAbs < 2 ^ 9000 := by
  have := wide_lt (i := q.den) (j := r.den) (by rw [den_abs]; exact h.2) (by rw [den_abs]; exact h'.2)
  exact Nat.lt_of_lt_of_le this (Nat.pow_le_pow_right (by decide) (by decide))
theorem _root_.Hq.Sm.dnlt {q r : Rat} (h : Sm 4400 q) (h' : Sm 4400 r) : ((q.den : Int) * r.num).natAbs < 2 ^ 9000 := by
  have := wide_lt (i := q.den) (j := r.num) (by rw [den_abs]; exact h.2) h'.1
  exact Nat.lt_of_lt_of_le this (Nat.pow_le_pow_right (by decide) (by decide))
section
variable {X : Cx} {B : Hp} {ss : List SD} {e a b : Expr} {pos : Pos} {q : Rat}
theorem de_n {p : Pos} {j : Nat} (h : DE X B ss e (num q)) : DE X B ss (.Subscript e (.Constant (.int 0) j p) pos) (.int q.num) := de_ixT h de_int rfl
theorem de_d {p : Pos} {j : Nat} (h : DE X B ss e (num q)) : DE X B ss (.Subscript e (.Constant (.int 1) j p) pos) (.int q.den) := de_ixT h de_int rfl
end
/-- two numbers and what is made of them -/
def R_op (C : Rat → Rat → Prop) (f : Rat → Rat → PyData) (ds : List PyData) (x : PyData) : Prop := ∃ a b : Rat, ds = [num a, num b] ∧ Sm 4400 a ∧ Sm 4400 b ∧ C a b ∧ x = f a b
section
variable {P : Program} {w : World} {K : PySem.W.Frag} {mg : Str → Option Value} {base : Heap}
theorem sc_compare : FnScope ["a", "b", "left", "right"] ["a", "b"] (defScope st_compare) := ⟨rfl, rfl, rfl, by decide +kernel, rfl, by decide +kernel, by decide +kernel⟩
theorem fn_compare (T : Top K mg) : FnIs P w K mg base "compare" ["a", "b"] 1 (R_op (fun _ _ => True) fun a b => .int (cmp a b)) := by
  refine mkD (d := dd_compare) T 1 rfl rfl rfl sc_compare (fun _ _ _ _ _ _ us hl => match us, hl with | [_, _], _ => rfl) (fun f cdv A outer s H E hr ds x hR _ => ?_)
  obtain ⟨a, b, rfl, ha, hb, _, rfl⟩ := hR
  refine dss_seq (ds_par 2 3 rfl sc_compare.nd (da_cons (de_mul (de_n (de_var 0 rfl)) (de_d (de_var 1 rfl)) (ha.cn hb (by decide) (by decide))) (da_cons (de_mul (de_n (de_var 1 rfl)) (de_d (de_var 0 rfl)) (hb.cn ha (by decide) (by decide))) da_nil)) rfl rfl) ?_
  have e1 : decide (a.num * b.den < b.num * a.den) = decide (a < b) := lt_eq a b
  have e2 : decide (b.num * a.den < a.num * b.den) = decide (b < a) := lt_eq b a
  refine dss_cons (mid := fun s => s = _ ∧ ¬ a < b) (ds_if (dt_is (dt_cmp cmp_lt (de_var 2 rfl) (de_var 3 rfl)) e1) (fun h => dss_end (ds_ret (de_neg de_int) ?_)) (fun h => dss_nil ⟨rfl, of_decide_eq_false h⟩)) ?_
  · show PyData.int (-1) = .int (cmp a b)
    unfold cmp
    rw [if_pos (of_decide_eq_true h)]
  · rintro ss' ⟨rfl, h⟩
    refine dss_one (ds_ret (de_intB (T.free _ (by decide)) (de_is (de_cmp cmp_gt (de_var 2 rfl) (de_var 3 rfl)) (congrArg PyData.bool e2))) ?_)
    show PyData.int _ = .int (cmp a b)
    unfold cmp
    rw [if_neg h]
    by_cases h2 : b < a
    · simp [h2]
    · simp [h2]
theorem sc_plus : FnScope ["a", "b"] ["a", "b"] (defScope st_plus) := ⟨rfl, rfl, rfl, by decide +kernel, rfl, by decide +kernel, by decide +kernel⟩
theorem fn_plus (T : Top K mg) : FnIs P w K mg base "plus" ["a", "b"] 2 (R_op (fun _ _ => True) fun a b => num (a + b)) := by
  refine mkD (d := dd_plus) T 2 rfl rfl rfl sc_plus (fun _ _ _ _ _ _ us hl => match us, hl with | [_, _], _ => rfl) (fun f cdv A outer s H E hr ds x hR _ => ?_)
  obtain ⟨a, b, rfl, ha, hb, _, rfl⟩ := hR
  refine dss_one (ds_ret (de_call (fn_number T) hr (da_cons (de_add (de_mul (de_n (de_var 0 rfl)) (de_d (de_var 1 rfl)) (ha.cn hb (by decide) (by decide))) (de_mul (de_n (de_var 1 rfl)) (de_d (de_var 0 rfl)) (hb.cn ha (by decide) (by decide))))
    (da_cons (de_mul (de_d (de_var 0 rfl)) (de_d (de_var 1 rfl)) (ha.dd hb (by decide) (by decide))) da_nil)) ⟨_, _, rfl, den_ne a b, ha.dlt hb, rfl⟩) ?_)
  show num _ = num _
  rw [add_eq]
theorem sc_minus : FnScope ["a", "b"] ["a", "b"] (defScope st_minus) := ⟨rfl, rfl, rfl, by decide +kernel, rfl, by decide +kernel, by decide +kernel⟩
theorem fn_minus (T : Top K mg) : FnIs P w K mg base "minus" ["a", "b"] 2 (R_op (fun _ _ => True) fun a b => num (a - b)) := by
  refine mkD (d := dd_minus) T 3 rfl rfl rfl sc_minus (fun _ _ _ _ _ _ us hl => match us, hl with | [_, _], _ => rfl) (fun f cdv A outer s H E hr ds x hR _ => ?_)
  obtain ⟨a, b, rfl, ha, hb, _, rfl⟩ := hR
  refine dss_one (ds_ret (de_call (fn_number T) hr (da_cons (de_sub (de_mul (de_n (de_var 0 rfl)) (de_d (de_var 1 rfl)) (ha.cn hb (by decide) (by decide))) (de_mul (de_n (de_var 1 rfl)) (de_d (de_var 0 rfl)) (hb.cn ha (by decide) (by decide))))
    (da_cons (de_mul (de_d (de_var 0 rfl)) (de_d (de_var 1 rfl)) (ha.dd hb (by decide) (by decide))) da_nil)) ⟨_, _, rfl, den_ne a b, ha.dlt hb, rfl⟩) ?_)
  show num _ = num _
  rw [sub_eq]
theorem sc_times : FnScope ["a", "b"] ["a", "b"] (defScope st_times) := ⟨rfl, rfl, rfl, by decide +kernel, rfl, by decide +kernel, by decide +kernel⟩
theorem fn_times (T : Top K mg) : FnIs P w K mg base "times" ["a", "b"] 2 (R_op (fun _ _ => True) fun a b => num (a * b)) := by
  refine mkD (d := dd_times) T 4 rfl rfl rfl sc_times (fun _ _ _ _ _ _ us hl => match us, hl with | [_, _], _ => rfl) (fun f cdv A outer s H E hr ds x hR _ => ?_)
  obtain ⟨a, b, rfl, ha, hb, _, rfl⟩ := hR
  refine dss_one (ds_ret (de_call (fn_number T) hr (da_cons (de_mul (de_n (de_var 0 rfl)) (de_n (de_var 1 rfl)) (ha.nn hb (by decide) (by decide)))
    (da_cons (de_mul (de_d (de_var 0 rfl)) (de_d (de_var 1 rfl)) (ha.dd hb (by decide) (by decide))) da_nil)) ⟨_, _, rfl, den_ne a b, ha.dlt hb, rfl⟩) ?_)
  show num _ = num _
  rw [mul_eq]
theorem sc_divided : FnScope ["a", "b"] ["a", "b"] (defScope st_divided) := ⟨rfl, rfl, rfl, by decide +kernel, rfl, by decide +kernel, by decide +kernel⟩
theorem fn_divided (T : Top K mg) : FnIs P w K mg base "divided" ["a", "b"] 2 (R_op (fun _ b => b ≠ 0) fun a b => num (a / b)) := by
  refine mkD (d := dd_divided) T 5 rfl rfl rfl sc_divided (fun _ _ _ _ _ _ us hl => match us, hl with | [_, _], _ => rfl) (fun f cdv A outer s H E hr ds x hR _ => ?_)
  obtain ⟨a, b, rfl, ha, hb, h0, rfl⟩ := hR
  refine dss_one (ds_ret (de_call (fn_number T) hr (da_cons (de_mul (de_n (de_var 0 rfl)) (de_d (de_var 1 rfl)) (ha.cn hb (by decide) (by decide)))
    (da_cons (de_mul (de_d (de_var 0 rfl)) (de_n (de_var 1 rfl)) (ha.nc hb (by decide) (by decide))) da_nil)) ⟨_, _, rfl, ?_, ha.dnlt hb, rfl⟩) ?_)
  · exact Int.mul_ne_zero (Int.ne_of_gt (den_pos a)) (fun h => h0 (Rat.num_eq_zero.mp h))
  · show num _ = num _
    rw [div_eq]
/-- the module's own numbers -/
theorem de_nought {X : Cx} {B : Hp} {ss : List SD} {pos : Pos} (T : Top X.K X.mg) (hg : Gl X "NOUGHT" := by rfl) : DE X B ss (.Name "NOUGHT" pos) (num 0) := by
  obtain ⟨a, h, q⟩ := T.nought
  exact de_glob h (v := .ref a) rfl (fun H => .tup (q H) (.cons (.int _) (.cons (.int _) .nil))) hg
theorem de_one_ {X : Cx} {B : Hp} {ss : List SD} {pos : Pos} (T : Top X.K X.mg) (hg : Gl X "ONE" := by rfl) : DE X B ss (.Name "ONE" pos) (num 1) := by
  obtain ⟨a, h, q⟩ := T.one
  exact de_glob h (v := .ref a) rfl (fun H => .tup (q H) (.cons (.int _) (.cons (.int _) .nil))) hg
def numL (xs : List Rat) : PyData := .list (xs.map num)
def R_total (ds : List PyData) (x : PyData) : Prop := ∃ xs : List Rat, ds = [numL xs] ∧ SumOk xs ∧ x = num (sumQ xs)
theorem sc_total : FnScope ["numbers", "found", "one"] ["numbers"] (defScope st_total) := ⟨rfl, rfl, rfl, by decide +kernel, rfl, by decide +kernel, by decide +kernel⟩
theorem sumQ_snoc (xs : List Rat) (x : Rat) : sumQ (xs ++ [x]) = sumQ xs + x := by simp [sumQ]
theorem fn_total (T : Top K mg) : FnIs P w K mg base "total" ["numbers"] 3 R_total := by
  refine mkD (d := dd_total) T 6 rfl rfl rfl sc_total (fun _ _ _ _ _ _ us hl => match us, hl with | [_], _ => rfl) (fun f cdv A outer s H E hr ds x hR _ => ?_)
  obtain ⟨xs, rfl, hok, rfl⟩ := hR
  refine dss_seq (ds_set 1 sc_total.nd (de_nought T) rfl) ?_
  refine dss_cons (mid := fun s => ∃ c, s = [.d (numL xs), .d (num (sumQ xs)), c]) (ds_for PassesOwn.never rfl (di_list (de_var 0 rfl)) (fun i s => ∃ c, s = [.d (numL xs), .d (num (sumQ (xs.take i))), c]) ⟨_, rfl⟩ ?_ ?_) ?_
  · rintro i d ss' hd ⟨c, rfl⟩
    rw [List.getElem?_map] at hd
    have hi : i < xs.length := by
      rcases Nat.lt_or_ge i xs.length with h | h
      · exact h
      · rw [List.getElem?_eq_none h] at hd; cases hd
    rw [List.getElem?_eq_getElem hi] at hd
    cases hd
    have es : sumQ (xs.take (i + 1)) = sumQ (xs.take i) + xs[i] := by rw [← sumQ_snoc, List.take_append_getElem hi]
    refine ⟨_, _, dg_name 2 sc_total.nd, fun B1 e1 => dss_one (ds_set 1 sc_total.nd (de_call (fn_plus T) hr (da_cons (de_var 1 rfl) (da_cons (de_var 2 rfl) da_nil)) ⟨_, _, rfl, hok.2 i (Nat.le_of_lt hi), hok.1 _ (List.getElem_mem hi), trivial, rfl⟩) ⟨_, by rw [es]; rfl⟩)⟩
  · rintro ss' ⟨c, rfl⟩
    exact ⟨c, by rw [List.length_map, List.take_length]⟩
  · rintro ss' ⟨c, rfl⟩
    exact dss_one (ds_ret (de_var 1 rfl) rfl)
end
end Hk
end
section
set_option Elab.async false
set_option linter.all false
set_option maxRecDepth 100000
set_option maxHeartbeats 2000000
namespace Hk
open PySem PySem.Spec PyProof.Rows L2
open Evl (Ex)
open Hq
theorem zpD_map {α β : Type} (f : α → PyData) (g : β → PyData) (xs : List α) (ys : List β) : zpD (xs.map f) (ys.map g) = (xs.zip ys).map fun p => .tuple [f p.1, g p.2] := by
  unfold zpD
  rw [List.zip_map, List.map_map]
  rfl
theorem enD_map {α : Type} (f : α → PyData) (xs : List α) : enD (xs.map f) = xs.zipIdx.map fun p => .tuple [.int (p.2 : Nat), f p.1] := by
  unfold enD
  rw [List.zipIdx_map, List.map_map]
  rfl
theorem rgD_map (n : Nat) : rgD 0 n = (List.range n).map fun i => PyData.int (i : Nat) := by
  unfold rgD
  refine List.map_congr_left fun i _ => ?_
  rw [Int.zero_add]
theorem zip_map {α β γ : Type} (f : α → β → γ) (xs : List α) (ys : List β) : (xs.zip ys).map (fun p => f p.1 p.2) = List.zipWith f xs ys := by
  rw [List.zip_eq_zipWith, List.map_zipWith]
def R_dot (ds : List PyData) (x : PyData) : Prop := ∃ a b : List Rat, ds = [numL a, numL b] ∧ AllSm 4400 a ∧ AllSm 4400 b ∧ a.length < 1000 ∧ SumOk (List.zipWith (· * ·) a b) ∧ x = num (dotQ a b)
section
variable {P : Program} {w : World} {K : PySem.W.Frag} {mg : Str → Option Value} {base : Heap}
theorem sc_dot : FnScope ["a", "b", "x", "y"] ["a", "b"] (defScope st_dot) := ⟨rfl, rfl, rfl, by decide +kernel, rfl, by decide +kernel, by decide +kernel⟩
theorem fn_dot (T : Top K mg) : FnIs P w K mg base "dot" ["a", "b"] 4 R_dot := by
  refine mkD (d := dd_dot) T 7 rfl rfl rfl sc_dot (fun _ _ _ _ _ _ us hl => match us, hl with | [_, _], _ => rfl) (fun f cdv A outer s H E hr ds x hR _ => ?_)
  obtain ⟨a, b, rfl, ha, hb, hl, hok, rfl⟩ := hR
  refine dss_one (ds_ret (de_call (fn_total T) hr (da_cons (d := numL (List.zipWith (· * ·) a b)) (de_is (de_dl (dl_dc rfl sc_dot.nd (dc_map [("x", 2), ("y", 3)] (a.zip b) (fun p => .tuple [num p.1, num p.2]) (fun p => num (p.1 * p.2)) (fun p => [.d (numL a), .d (numL b), .d (num p.1), .d (num p.2)])
    (by rw [← zpD_map]; exact di_zip (T.free _ (by decide)) (de_var 0 rfl) (de_var 1 rfl)) (by rw [List.length_zip]; omega) rfl (fun u hu s H C cl fp => ⟨_, (by decide), dg_tup rfl (dgs_cons (dg_name 2 sc_dot.nd) (dgs_cons (dg_name 3 sc_dot.nd) dgs_nil)), fun B1 e1 =>
      de_call (fn_times T) (hr.mono (by decide)) (da_cons (de_var 2 rfl) (da_cons (de_var 3 rfl) da_nil)) ⟨_, _, rfl, ha _ (List.of_mem_zip hu).1, hb _ (List.of_mem_zip hu).2, trivial, rfl⟩⟩)))) ?_) da_nil) ⟨_, rfl, hok, rfl⟩) rfl)
  unfold numL
  rw [List.map_zipWith, ← zip_map]
end
end Hk
end
section
set_option Elab.async false
set_option linter.all false
set_option maxRecDepth 100000
set_option maxHeartbeats 2000000
namespace Hk
open PySem PySem.Spec PyProof.Rows L2
open Evl (Ex)
open Hq
/-! ### markets as data -/
def ruleS : Rule → Str
  | .any => "any"
  | .long => "long"
  | .short => "short"
  | .none_ => "none"
def ruleD (r : Rule) : PyData := .str (ruleS r)
def nodeD (n : Node) : PyData := .tuple [.int n.par, num n.g, .list (n.rules.map ruleD), numL n.pr, numL n.po, .list []]
def nodesD (m : Market) : PyData := .list (m.nodes.map nodeD)
def marketD (names : List PyData) (m : Market) : PyData := .tuple [.list names, .list [], nodesD m]
structure WfN (n : Nat) (x : Node) : Prop where
  g : Sm 1000 x.g
  rules : x.rules.length = n
  pr : x.pr.length = n
  po : x.po.length = n
  prS : AllSm 1000 x.pr
  poS : AllSm 1000 x.po
structure WfM (names : List PyData) (m : Market) : Prop where
  nl : names.length = m.many
  many : m.many ≤ 4
  len : m.nodes.length ≤ 60
  node : ∀ x ∈ m.nodes, WfN m.many x
theorem nodeAt_get {m : Market} {k : Nat} (h : k < m.nodes.length) : m.nodes[k]? = some (nodeAt m k) := by
  unfold nodeAt
  rw [List.getD_eq_getElem?_getD, List.getElem?_eq_getElem h]
  rfl
theorem WfM.at_ {names : List PyData} {m : Market} (W : WfM names m) {k : Nat} (h : k < m.nodes.length) : WfN m.many (nodeAt m k) := W.node _ (List.mem_of_getElem? (nodeAt_get h))
theorem atI_map {α : Type} (f : α → PyData) {xs : List α} {k : Nat} {x : α} (h : xs[k]? = some x) : atI (xs.map f) (k : Int) = some (f x) := atI_nat (by rw [List.getElem?_map, h]; rfl)
theorem getQ_at {xs : List Rat} {k : Nat} (h : k < xs.length) : xs[k]? = some (getQ xs k) := by
  unfold getQ
  rw [List.getD_eq_getElem?_getD, List.getElem?_eq_getElem h]
  rfl
theorem getQ_mem {xs : List Rat} {k : Nat} (h : k < xs.length) : getQ xs k ∈ xs := List.mem_of_getElem? (getQ_at h)
theorem atI_num {xs : List Rat} {k : Nat} (h : k < xs.length) : atI (xs.map num) (k : Int) = some (num (getQ xs k)) := atI_map num (getQ_at h)
section
variable {X : Cx} {B : Hp} {ss : List SD} {e a b : Expr} {pos : Pos} {names : List PyData} {m : Market} {k : Nat}
/-- market[2] -/
theorem de_nodes {p : Pos} {j : Nat} (h : DE X B ss e (marketD names m)) : DE X B ss (.Subscript e (.Constant (.int 2) j p) pos) (nodesD m) := de_ixT h de_int rfl
theorem de_assets {p : Pos} {j : Nat} (h : DE X B ss e (marketD names m)) : DE X B ss (.Subscript e (.Constant (.int 0) j p) pos) (.list names) := de_ixT h de_int rfl
/-- market[2][k] -/
theorem de_node (h : DE X B ss a (nodesD m)) (hb : DE X B ss b (.int k)) (hk : k < m.nodes.length) (hs : PlainIx b := by exact fun _ _ => rfl) : DE X B ss (.Subscript a b pos) (nodeD (nodeAt m k)) := de_ixL h hb (atI_map nodeD (nodeAt_get hk)) hs
variable {n : Node}
theorem de_par {p : Pos} {j : Nat} (h : DE X B ss e (nodeD n)) : DE X B ss (.Subscript e (.Constant (.int 0) j p) pos) (.int n.par) := de_ixT h de_int rfl
theorem de_growth {p : Pos} {j : Nat} (h : DE X B ss e (nodeD n)) : DE X B ss (.Subscript e (.Constant (.int 1) j p) pos) (num n.g) := de_ixT h de_int rfl
theorem de_rules {p : Pos} {j : Nat} (h : DE X B ss e (nodeD n)) : DE X B ss (.Subscript e (.Constant (.int 2) j p) pos) (.list (n.rules.map ruleD)) := de_ixT h de_int rfl
theorem de_prices {p : Pos} {j : Nat} (h : DE X B ss e (nodeD n)) : DE X B ss (.Subscript e (.Constant (.int 3) j p) pos) (numL n.pr) := de_ixT h de_int rfl
theorem de_payouts {p : Pos} {j : Nat} (h : DE X B ss e (nodeD n)) : DE X B ss (.Subscript e (.Constant (.int 4) j p) pos) (numL n.po) := de_ixT h de_int rfl
end
def intsD (xs : List Nat) : PyData := .list (xs.map fun i => PyData.int (i : Nat))
def R_children (ds : List PyData) (x : PyData) : Prop := ∃ names m k, ds = [marketD names m, .int (k : Nat)] ∧ WfM names m ∧ x = intsD (kids m k)
section
variable {P : Program} {w : World} {K : PySem.W.Frag} {mg : Str → Option Value} {base : Heap}
theorem sc_children : FnScope ["market", "node", "place"] ["market", "node"] (defScope st_children) := ⟨rfl, rfl, rfl, by decide +kernel, rfl, by decide +kernel, by decide +kernel⟩
theorem fn_children (T : Top K mg) : FnIs P w K mg base "children" ["market", "node"] 1 R_children := by
  refine mkD (d := dd_children) T 8 rfl rfl rfl sc_children (fun _ _ _ _ _ _ us hl => match us, hl with | [_, _], _ => rfl) (fun f cdv A outer s H E hr ds x hR _ => ?_)
  obtain ⟨names, m, k, rfl, W, rfl⟩ := hR
  refine dss_one (ds_ret (de_dl (dl_dc rfl sc_children.nd (dc [("place", 2)] (List.range m.nodes.length) (fun i => .int (i : Nat)) (fun i => decide ((nodeAt m i).par = (k : Int))) (fun i => .int (i : Nat)) (fun i => [.d (marketD names m), .d (.int (k : Nat)), .d (.int (i : Nat))])
    (by rw [← rgD_map]; exact di_rng (T.free _ (by decide)) (de_lenL (T.free _ (by decide)) (de_nodes (de_var 0 rfl))) (by rw [List.length_map]) (by have := W.len; omega)) (by have := W.len; rw [List.length_range]; omega) rfl (fun u hu s H C cl fp => ⟨_, (by decide), dg_name 2 sc_children.nd, fun B1 e1 =>
      ⟨dt_cmp cmp_eqI (de_par (de_node (de_nodes (de_var 0 rfl)) (de_var 2 rfl) (List.mem_range.mp hu))) (de_var 1 rfl), fun _ => de_var 2 rfl⟩⟩)))) rfl)
end
end Hk
end
section
set_option Elab.async false
set_option linter.all false
set_option maxRecDepth 100000
set_option maxHeartbeats 2000000
namespace Hk
open PySem PySem.Spec PyProof.Rows L2
open Evl (Ex)
open Hq
/-! ### equality of data -/
theorem shaped_num (q : Rat) : SeqAt.shaped (num q) = true := rfl
theorem eqv_num (a b : Rat) : PyData.eqv (num a) (num b) = decide (a = b) := by
  show ((a.num == b.num) && (((a.den : Int) == (b.den : Int)) && true)) = decide (a = b)
  rw [Bool.and_true]
  by_cases h : a = b
  · subst h; simp
  · rw [decide_eq_false h]
    by_cases h1 : a.num = b.num
    · have h2 : ¬ a.den = b.den := fun q => h (Rat.ext h1 q)
      have h3 : ¬ (a.den : Int) = (b.den : Int) := fun q => h2 (by omega)
      simp [h1, h3]
    · simp [h1]
section
variable {X : Cx} {B : Hp} {ss : List SD} {q r : Rat}
theorem cmp_eqN (hu : X.A.units + 64 < cLine) : CmpD X B ss .Eq (num q) (num r) (decide (q = r)) := by
  have h := cmp_eqD (B := B) (ss := ss) hu (shaped_num q) (shaped_num r)
  rw [eqv_num] at h
  exact h
theorem cmp_neN (hu : X.A.units + 64 < cLine) : CmpD X B ss .NotEq (num q) (num r) (!decide (q = r)) := by
  have h := cmp_neD (B := B) (ss := ss) hu (shaped_num q) (shaped_num r)
  rw [eqv_num] at h
  exact h
end
/-! ### lines as data -/
def lineD (l : Line) : PyData := .tuple [numL l.f, .bool false, num l.b, numL l.m]
def linesD (ls : List Line) : PyData := .list (ls.map lineD)
section
variable {X : Cx} {B : Hp} {ss : List SD} {e a b : Expr} {pos : Pos} {l : Line} {ls : List Line} {k : Nat} {xs : List Rat}
theorem de_lf {p : Pos} {j : Nat} (h : DE X B ss e (lineD l)) : DE X B ss (.Subscript e (.Constant (.int 0) j p) pos) (numL l.f) := de_ixT h de_int rfl
theorem de_ls {p : Pos} {j : Nat} (h : DE X B ss e (lineD l)) : DE X B ss (.Subscript e (.Constant (.int 1) j p) pos) (.bool false) := de_ixT h de_int rfl
theorem de_lb {p : Pos} {j : Nat} (h : DE X B ss e (lineD l)) : DE X B ss (.Subscript e (.Constant (.int 2) j p) pos) (num l.b) := de_ixT h de_int rfl
theorem de_lm {p : Pos} {j : Nat} (h : DE X B ss e (lineD l)) : DE X B ss (.Subscript e (.Constant (.int 3) j p) pos) (numL l.m) := de_ixT h de_int rfl
theorem de_at (h : DE X B ss a (numL xs)) (hb : DE X B ss b (.int k)) (hk : k < xs.length) (hs : PlainIx b := by exact fun _ _ => rfl) : DE X B ss (.Subscript a b pos) (num (getQ xs k)) := de_ixL h hb (atI_num hk) hs
end
def LineS (l : Line) : Prop := AllSm 4400 l.f ∧ Sm 4400 l.b ∧ AllSm 4400 l.m ∧ l.f.length < 1000 ∧ l.m.length < 1000
def R_scaled (ds : List PyData) (x : PyData) : Prop := ∃ l c, ds = [lineD l, num c] ∧ Sm 4400 c ∧ LineS l ∧ x = lineD (scaledL l c)
def R_added (ds : List PyData) (x : PyData) : Prop := ∃ l o, ds = [lineD l, lineD o] ∧ LineS l ∧ LineS o ∧ x = lineD (addedL l o)
def placeD : Option Nat → PyData
  | none => .none
  | some p => .int p
def R_first (ds : List PyData) (x : PyData) : Prop := ∃ n l, ds = [.int (n : Nat), lineD l] ∧ n ≤ l.f.length ∧ n < 1000 ∧ x = placeD (firstPlace n l)
def R_without (ds : List PyData) (x : PyData) : Prop := ∃ l p e, ds = [lineD l, .int (p : Nat), lineD e] ∧ p < l.f.length ∧ p < e.f.length ∧ getQ e.f p ≠ 0 ∧ LineSm l ∧ EqSm e ∧ l.f.length < 1000 ∧ l.m.length < 1000 ∧ e.f.length < 1000 ∧ e.m.length < 1000 ∧ x = lineD (withoutL p e l)
section
variable {P : Program} {w : World} {K : PySem.W.Frag} {mg : Str → Option Value} {base : Heap}
theorem sc_scaled : FnScope ["line", "by", "one"] ["line", "by"] (defScope st_scaled) := ⟨rfl, rfl, rfl, by decide +kernel, rfl, by decide +kernel, by decide +kernel⟩
theorem fn_scaled (T : Top K mg) : FnIs P w K mg base "scaled" ["line", "by"] 3 R_scaled := by
  refine mkD (d := dd_scaled) T 11 rfl rfl rfl sc_scaled (fun _ _ _ _ _ _ us hl => match us, hl with | [_, _], _ => rfl) (fun f cdv A outer s H E hr ds x hR _ => ?_)
  obtain ⟨l, c, rfl, hc, ⟨h1, h2, h3, h4, h5⟩, rfl⟩ := hR
  refine dss_one (ds_ret (de_tup (da_cons (d := numL (l.f.map (c * ·))) (de_is (de_dl (dl_dc rfl sc_scaled.nd (dc_map [("one", 2)] l.f num (fun q => num (c * q)) (fun q => [.d (lineD l), .d (num c), .d (num q)]) (di_list (de_lf (de_var 0 rfl))) (by omega) rfl (fun u hu s H C cl fp => ⟨_, (by decide), dg_name 2 sc_scaled.nd, fun B1 e1 =>
      de_call (fn_times T) (hr.mono (by decide)) (da_cons (de_var 1 rfl) (da_cons (de_var 2 rfl) da_nil)) ⟨_, _, rfl, hc, h1 _ hu, trivial, rfl⟩⟩)))) (by unfold numL; rw [List.map_map]; rfl))
    (da_cons (de_ls (de_var 0 rfl)) (da_cons (de_call (fn_times T) (hr.mono (by decide)) (da_cons (de_var 1 rfl) (da_cons (de_lb (de_var 0 rfl)) da_nil)) ⟨_, _, rfl, hc, h2, trivial, rfl⟩)
    (da_cons (d := numL (l.m.map (c * ·))) (de_is (de_dl (dl_dc rfl sc_scaled.nd (dc_map [("one", 2)] l.m num (fun q => num (c * q)) (fun q => [.d (lineD l), .d (num c), .d (num q)]) (di_list (de_lm (de_var 0 rfl))) (by omega) rfl (fun u hu s H C cl fp => ⟨_, (by decide), dg_name 2 sc_scaled.nd, fun B1 e1 =>
      de_call (fn_times T) (hr.mono (by decide)) (da_cons (de_var 1 rfl) (da_cons (de_var 2 rfl) da_nil)) ⟨_, _, rfl, hc, h3 _ hu, trivial, rfl⟩⟩)))) (by unfold numL; rw [List.map_map]; rfl)) da_nil))))) rfl)
theorem sc_added : FnScope ["line", "other", "factors", "multipliers", "one", "two"] ["line", "other"] (defScope st_added) := ⟨rfl, rfl, rfl, by decide +kernel, rfl, by decide +kernel, by decide +kernel⟩
theorem fn_added (T : Top K mg) : FnIs P w K mg base "added" ["line", "other"] 3 R_added := by
  refine mkD (d := dd_added) T 12 rfl rfl rfl sc_added (fun _ _ _ _ _ _ us hl => match us, hl with | [_, _], _ => rfl) (fun f cdv A outer s H E hr ds x hR _ => ?_)
  obtain ⟨l, o, rfl, ⟨h1, h2, h3, h4, h5⟩, ⟨g1, g2, g3, g4, g5⟩, rfl⟩ := hR
  refine dss_seq (ds_setC 2 rfl sc_added.nd (dc_map [("one", 4), ("two", 5)] (l.f.zip o.f) (fun p => .tuple [num p.1, num p.2]) (fun p => num (p.1 + p.2)) (fun p => [.d (lineD l), .d (lineD o), .no, .no, .d (num p.1), .d (num p.2)])
    (by rw [← zpD_map]; exact di_zip (T.free _ (by decide)) (de_lf (de_var 0 rfl)) (de_lf (de_var 1 rfl))) (by rw [List.length_zip]; omega) rfl (fun u hu s H C cl fp => ⟨_, (by decide), dg_tup rfl (dgs_cons (dg_name 4 sc_added.nd) (dgs_cons (dg_name 5 sc_added.nd) dgs_nil)), fun B1 e1 =>
      de_call (fn_plus T) hr (da_cons (de_var 4 rfl) (da_cons (de_var 5 rfl) da_nil)) ⟨_, _, rfl, h1 _ (List.of_mem_zip hu).1, g1 _ (List.of_mem_zip hu).2, trivial, rfl⟩⟩)) rfl rfl) ?_
  refine dss_frz (i := 2) rfl (dss_seq (ds_setC 3 rfl sc_added.nd (dc_map [("one", 4), ("two", 5)] (l.m.zip o.m) (fun p => .tuple [num p.1, num p.2]) (fun p => num (p.1 + p.2)) (fun p => [.d (lineD l), .d (lineD o), _, .no, .d (num p.1), .d (num p.2)])
    (by rw [← zpD_map]; exact di_zip (T.free _ (by decide)) (de_lm (de_var 0 rfl)) (de_lm (de_var 1 rfl))) (by rw [List.length_zip]; omega) rfl (fun u hu s H C cl fp => ⟨_, (by decide), dg_tup rfl (dgs_cons (dg_name 4 sc_added.nd) (dgs_cons (dg_name 5 sc_added.nd) dgs_nil)), fun B1 e1 =>
      de_call (fn_plus T) hr (da_cons (de_var 4 rfl) (da_cons (de_var 5 rfl) da_nil)) ⟨_, _, rfl, h3 _ (List.of_mem_zip hu).1, g3 _ (List.of_mem_zip hu).2, trivial, rfl⟩⟩)) rfl rfl) ?_)
  refine dss_frz (i := 3) rfl (dss_one (ds_ret (de_tup (da_cons (de_var 2 rfl) (da_cons (de_or (de_ls (de_var 0 rfl)) fun _ => de_one (de_ls (de_var 1 rfl)))
    (da_cons (de_call (fn_plus T) hr (da_cons (de_lb (de_var 0 rfl)) (da_cons (de_lb (de_var 1 rfl)) da_nil)) ⟨_, _, rfl, h2, g2, trivial, rfl⟩) (da_cons (de_var 3 rfl) da_nil))))) ?_))
  show PyData.tuple _ = lineD _
  unfold lineD addedL numL
  simp only [← zip_map, List.map_map]
  rfl
theorem sc_first_place : FnScope ["count", "line", "place"] ["count", "line"] (defScope st_first_place) := ⟨rfl, rfl, rfl, by decide +kernel, rfl, by decide +kernel, by decide +kernel⟩
theorem firstPlace_none {n : Nat} {l : Line} (h : ∀ j, j < n → getQ l.f j = 0) : firstPlace n l = none := by
  unfold firstPlace
  rw [List.find?_eq_none]
  intro i hi
  simp [h i (List.mem_range.mp hi)]
theorem find_range {n i : Nat} {p : Nat → Bool} (hi : i < n) (hp : p i = true) (h : ∀ j, j < i → p j = false) : (List.range n).find? p = some i := by
  rw [List.find?_range_eq_some]
  exact ⟨hp, List.mem_range.mpr hi, fun j hj => by rw [h j hj]; rfl⟩
theorem firstPlace_some {n i : Nat} {l : Line} (hi : i < n) (h0 : getQ l.f i ≠ 0) (h : ∀ j, j < i → getQ l.f j = 0) : firstPlace n l = some i := find_range hi (decide_eq_true h0) fun j hj => by simp [h j hj]
theorem fn_first_place (T : Top K mg) : FnIs P w K mg base "first_place" ["count", "line"] 1 R_first := by
  refine mkD (d := dd_first_place) T 14 rfl rfl rfl sc_first_place (fun _ _ _ _ _ _ us hl => match us, hl with | [_, _], _ => rfl) (fun f cdv A outer s H E hr ds x hR _ => ?_)
  obtain ⟨n, l, rfl, hn, hn2, rfl⟩ := hR
  refine dss_cons (mid := fun s => firstPlace n l = none) (ds_for PassesOwn.never rfl (di_rng (m := n) (T.free _ (by decide)) (de_var 0 rfl) rfl (by omega)) (fun i s => (∃ c, s = [.d (.int (n : Nat)), .d (lineD l), c]) ∧ ∀ j, j < i → getQ l.f j = 0) ⟨⟨_, rfl⟩, fun j hj => by omega⟩ ?_ ?_) ?_
  · rintro i d ss' hd ⟨⟨c, rfl⟩, hz⟩
    obtain ⟨rfl, hi⟩ := rgD_get hd
    rw [Int.zero_add]
    refine ⟨_, _, dg_name 2 sc_first_place.nd, fun B1 e1 => dss_one (ds_if (dt_cmp (cmp_neN hr.units) (de_at (de_lf (de_var 1 rfl)) (de_var 2 rfl) (by omega)) (de_nought T)) (fun h => dss_one (ds_ret (de_var 2 rfl) ?_)) (fun h => dss_nil ⟨⟨_, rfl⟩, fun j hj => ?_⟩))⟩
    · have h' : getQ l.f i ≠ 0 := by simpa using h
      rw [firstPlace_some hi h' hz]
      rfl
    · have h' : getQ l.f i = 0 := by simpa using h
      rcases Nat.lt_or_ge j i with q | q
      · exact hz j q
      · have e : j = i := by omega
        rw [e]; exact h'
  · rintro ss' ⟨_, hz⟩
    rw [rgD_len] at hz
    exact firstPlace_none hz
  · intro ss' e
    refine dss_one (ds_ret de_non ?_)
    show PyData.none = placeD _
    rw [e]
    rfl
theorem sc_without : FnScope ["line", "place", "equation"] ["line", "place", "equation"] (defScope st_without) := ⟨rfl, rfl, rfl, by decide +kernel, rfl, by decide +kernel, by decide +kernel⟩
theorem fn_without (T : Top K mg) : FnIs P w K mg base "without" ["line", "place", "equation"] 4 R_without := by
  refine mkD (d := dd_without) T 15 rfl rfl rfl sc_without (fun _ _ _ _ _ _ us hl => match us, hl with | [_, _, _], _ => rfl) (fun f cdv A outer s H E hr ds x hR _ => ?_)
  obtain ⟨l, p, e, rfl, hp, hp2, h0, ⟨a1, a2, a3⟩, ⟨b1, b2, b3⟩, c1, c2, c3, c4, rfl⟩ := hR
  have sl : Sm 1300 (getQ l.f p) := a1 _ (getQ_mem hp)
  have se : Sm 1300 (getQ e.f p) := b1 _ (getQ_mem hp2)
  refine dss_cons (mid := fun s => s = [.d (lineD l), .d (.int (p : Nat)), .d (lineD e)] ∧ getQ l.f p ≠ 0) (ds_if (dt_cmp (cmp_eqN hr.units) (de_at (de_lf (de_var 0 rfl)) (de_var 1 rfl) hp) (de_nought T)) (fun h => dss_end (ds_ret (de_var 0 rfl) ?_)) (fun h => dss_nil ⟨rfl, of_decide_eq_false h⟩)) ?_
  · show lineD l = lineD (withoutL p e l)
    unfold withoutL
    rw [if_pos (of_decide_eq_true h)]
  · rintro ss' ⟨rfl, hn⟩
    have sr : Sm 2600 ((0 - getQ l.f p) / getQ e.f p) := sl.nsub.div se h0
    have hsc : LineS (scaledL e ((0 - getQ l.f p) / getQ e.f p)) := by
      refine ⟨fun x hx => ?_, (sr.mul b2).mono (by decide), fun x hx => ?_, by simpa [scaledL] using c3, by simpa [scaledL] using c4⟩
      · obtain ⟨y, hy, rfl⟩ := List.mem_map.mp hx
        exact (sr.mul (b1 y hy)).mono (by decide)
      · obtain ⟨y, hy, rfl⟩ := List.mem_map.mp hx
        exact (sr.mul (b3 y hy)).mono (by decide)
    refine dss_one (ds_ret (de_call (fn_added T) hr (da_cons (de_var 0 rfl) (da_cons (de_call (fn_scaled T) hr (da_cons (de_var 2 rfl) (da_cons (de_call (fn_divided T) (hr.mono (by decide)) (da_cons (de_call (fn_minus T) (hr.mono (by decide)) (da_cons (de_nought T) (da_cons (de_at (de_lf (de_var 0 rfl)) (de_var 1 rfl) hp) da_nil))
      ⟨_, _, rfl, Sm.zero (by decide), sl.mono (by decide), trivial, rfl⟩) (da_cons (de_at (de_lf (de_var 2 rfl)) (de_var 1 rfl) hp2) da_nil)) ⟨_, _, rfl, sl.nsub.mono (by decide), se.mono (by decide), h0, rfl⟩) da_nil))
      ⟨_, _, rfl, sr.mono (by decide), ⟨b1.mono (by decide), b2.mono (by decide), b3.mono (by decide), c3, c4⟩, rfl⟩) da_nil)) ⟨_, _, rfl, ⟨a1.mono (by decide), a2.mono (by decide), a3.mono (by decide), c1, c2⟩, hsc, rfl⟩) ?_)
    show lineD _ = lineD (withoutL p e l)
    unfold withoutL
    rw [if_neg hn]
end
end Hk
end
section
set_option Elab.async false
set_option linter.all false
set_option maxRecDepth 100000
set_option maxHeartbeats 4000000
namespace Hk
open PySem PySem.Spec PyProof.Rows L2
open Evl (Ex)
open Hq
theorem cutD_from (xs : List PyData) (k : Nat) : cutD xs (some (k : Int)) none = xs.drop k := by
  unfold cutD
  rw [HT.sIx_nat, HT.sIx_none]
  rcases Nat.le_total k xs.length with h | h
  · rw [Nat.min_eq_left h, List.take_of_length_le (by rw [List.length_drop]; exact Nat.le_refl _)]
  · rw [Nat.min_eq_right h, List.drop_eq_nil_of_le (Nat.le_refl _), List.drop_eq_nil_of_le h]; simp
theorem firstPlace_spec {n p : Nat} {l : Line} (h : firstPlace n l = some p) : p < n ∧ getQ l.f p ≠ 0 := by
  unfold firstPlace at h
  have h1 := List.find?_some h
  have h2 := List.mem_of_find?_eq_some h
  exact ⟨List.mem_range.mp h2, of_decide_eq_true h1⟩
theorem shp_without {n k p : Nat} {e l : Line} (he : Shp n k e) (hl : Shp n k l) : Shp n k (withoutL p e l) := by
  unfold withoutL
  split
  · exact hl
  · unfold Shp addedL scaledL
    simp [he.1, he.2, hl.1, hl.2]
theorem gauss_nil (n : Nat) (os : List Line) : gauss n [] os = ([], [], os) := by rw [gauss]
theorem gauss_none {n : Nat} {e : Line} {rest os : List Line} (h : firstPlace n e = none) : gauss n (e :: rest) os = ((gauss n rest os).1, e :: (gauss n rest os).2.1, (gauss n rest os).2.2) := by
  rw [gauss]; simp [h]
theorem gauss_some {n p : Nat} {e : Line} {rest os : List Line} (h : firstPlace n e = some p) : gauss n (e :: rest) os = ((p, e) :: (gauss n (rest.map (withoutL p e)) (os.map (withoutL p e))).1, (gauss n (rest.map (withoutL p e)) (os.map (withoutL p e))).2.1, (gauss n (rest.map (withoutL p e)) (os.map (withoutL p e))).2.2) := by
  rw [gauss]; simp [h]
theorem gaussOk_cons {n : Nat} {e : Line} {rest os : List Line} (h : gaussOk n (e :: rest) os) : EqSm e ∧ (∀ l ∈ rest, EqSm l) ∧ (∀ l ∈ os, LineSm l) ∧ (firstPlace n e = none → gaussOk n rest os) ∧ ∀ p, firstPlace n e = some p → gaussOk n (rest.map (withoutL p e)) (os.map (withoutL p e)) := by
  rw [gaussOk] at h
  obtain ⟨h1, h2, h3, h4⟩ := h
  refine ⟨h1, h2, h3, fun q => ?_, fun p q => ?_⟩
  · rw [q] at h4; exact h4
  · rw [q] at h4; exact h4
theorem EqSm.line {l : Line} (h : EqSm l) : LineSm l := ⟨h.1, h.2.1.mono (by decide), h.2.2⟩
def pairD (p : Nat × Line) : PyData := .tuple [.int (p.1 : Nat), lineD p.2]
def gaussD (r : List (Nat × Line) × List Line × List Line) : PyData := .tuple [.list (r.1.map pairD), linesD r.2.1, linesD r.2.2]
def R_we (ds : List PyData) (x : PyData) : Prop := ∃ n k es os, ds = [.int (n : Nat), linesD es, linesD os] ∧ gaussOk n es os ∧ (∀ l ∈ es, Shp n k l) ∧ (∀ l ∈ os, Shp n k l) ∧ n < 1000 ∧ k < 1000 ∧ es.length < 1000 ∧ os.length < 1000 ∧ x = gaussD (gauss n es os)
section
variable {P : Program} {w : World} {K : PySem.W.Frag} {mg : Str → Option Value} {base : Heap}
theorem sc_without_equations : FnScope ["count", "equations", "others", "solved", "left", "waiting", "equation", "place", "line"] ["count", "equations", "others"] (defScope st_without_equations) := ⟨rfl, rfl, rfl, by decide +kernel, rfl, by decide +kernel, by decide +kernel⟩
/-- the while's word -/
def weI (n k : Nat) (eqs : PyData) (fin : List (Nat × Line) × List Line × List Line) (m : Nat) (s : List SD) : Prop := ∃ S L es os c6 c7 c8, m = es.length ∧ s = [.d (.int (n : Nat)), .d eqs, .d (linesD os), .m (S.map pairD), .m (L.map lineD), .d (linesD es), c6, c7, c8] ∧
  gaussOk n es os ∧ (∀ l ∈ es, Shp n k l) ∧ (∀ l ∈ os, Shp n k l) ∧ os.length < 1000 ∧ es.length + S.length + L.length < 1000 ∧ fin = (S ++ (gauss n es os).1, L ++ (gauss n es os).2.1, (gauss n es os).2.2)
theorem fn_without_equations (T : Top K mg) : FnIs P w K mg base "without_equations" ["count", "equations", "others"] 5 R_we := by
  refine mkD (d := dd_without_equations) T 16 rfl rfl rfl sc_without_equations (fun _ _ _ _ _ _ us hl => match us, hl with | [_, _, _], _ => rfl) (fun f cdv A outer s H E hr ds x hR _ => ?_)
  obtain ⟨n, k, eqs, ots, rfl, hok, hs1, hs2, hn, hk, hl1, hl2, rfl⟩ := hR
  have nd := sc_without_equations.nd
  refine dss_seq (ds_parL 3 4 rfl nd rfl rfl) (dss_seq (ds_setL 5 nd (dl_listOf (T.free _ (by decide)) (de_var 1 rfl)) rfl) (dss_frz (i := 5) rfl ?_))
  refine dss_cons (mid := weI n k (linesD eqs) (gauss n eqs ots) 0) (ds_while PassesOwn.never (weI n k (linesD eqs) (gauss n eqs ots)) eqs.length ⟨[], [], eqs, ots, _, _, _, rfl, rfl, hok, hs1, hs2, hl2, by simpa using hl1, rfl⟩ ?_) ?_
  · rintro m ss' ⟨S, L, es, os, c6, c7, c8, rfl, rfl, ok, sh1, sh2, lo, lsum, fin⟩
    refine ⟨_, dt_list (de_var 5 rfl), fun ht => ?_, fun ht => ?_⟩
    · cases es with
      | nil => exact absurd ht (by decide)
      | cons e rest =>
        obtain ⟨o1, o2, o3, o4, o5⟩ := gaussOk_cons ok
        have she := sh1 e List.mem_cons_self
        have shr : ∀ l ∈ rest, Shp n k l := fun l hl => sh1 l (List.mem_cons_of_mem _ hl)
        have ecut : cutD ((e :: rest).map lineD) (some 1) none = rest.map lineD := cutD_from _ 1
        have lsum' : rest.length + 1 + S.length + L.length < 1000 := by simpa using lsum
        refine dss_seq (ds_set 6 nd (d := lineD e) (de_ixL (de_var 5 rfl) de_int (atI_nat (j := 0) rfl)) rfl) ?_
        cases hp : firstPlace n e with
        | none =>
          refine dss_seq (ds_set 7 nd (de_call (d := PyData.none) (fn_first_place T) (hr.mono (by decide)) (da_cons (de_var 0 rfl) (da_cons (de_var 6 rfl) da_nil)) ⟨_, _, rfl, Nat.le_of_eq she.1.symm, hn, by rw [hp]; rfl⟩) rfl) ?_
          refine dss_seq (ds_setL 5 nd (dl_slice (de_var 5 rfl) (do_some de_int) do_none) rfl) (dss_frz (i := 5) rfl ?_)
          refine dss_one (ds_if (t := true) (dt_cmp cmp_isN (de_var 7 rfl) de_non) (fun _ => dss_one (ds_app 4 rfl (de_var 6 rfl) (by rw [List.length_map]; omega) ?_)) (fun q => nomatch q))
          refine ⟨rest.length, by simp, S, L ++ [e], rest, os, .d (lineD e), .d .none, c8, rfl, ?_, o4 hp, shr, sh2, lo, by simp; omega, ?_⟩
          · rw [ecut, List.map_append]; rfl
          · rw [fin, gauss_none hp]; simp
        | some p =>
          obtain ⟨p1, p2⟩ := firstPlace_spec hp
          refine dss_seq (ds_set 7 nd (de_call (d := PyData.int (p : Nat)) (fn_first_place T) (hr.mono (by decide)) (da_cons (de_var 0 rfl) (da_cons (de_var 6 rfl) da_nil)) ⟨_, _, rfl, Nat.le_of_eq she.1.symm, hn, by rw [hp]; rfl⟩) rfl) ?_
          refine dss_seq (ds_setL 5 nd (dl_slice (de_var 5 rfl) (do_some de_int) do_none) rfl) (dss_frz (i := 5) rfl ?_)
          rw [ecut]
          have hcomp : ∀ (l : Line), LineSm l → Shp n k l → R_without [lineD l, .int (p : Nat), lineD e] (lineD (withoutL p e l)) := fun l h1 h2 =>
            ⟨l, p, e, rfl, by rw [h2.1]; exact p1, by rw [she.1]; exact p1, p2, h1, o1, by rw [h2.1]; exact hn, by rw [h2.2]; exact hk, by rw [she.1]; exact hn, by rw [she.2]; exact hk, rfl⟩
          refine dss_one (ds_if (t := false) (dt_cmp cmp_isN (de_var 7 rfl) de_non) (fun q => nomatch q) (fun _ => ?_))
          refine dss_seq (ds_app 3 rfl (de_tup (da_cons (de_var 7 rfl) (da_cons (de_var 6 rfl) da_nil))) (by rw [List.length_map]; omega) rfl) ?_
          refine dss_seq (ds_setC 5 rfl nd (dc_map [("line", 8)] rest lineD (fun l => lineD (withoutL p e l)) (fun l => [.d (.int (n : Nat)), .d (linesD eqs), .d (linesD os), .m _, .m _, .d (linesD rest), .d (lineD e), .d (.int (p : Nat)), .d (lineD l)]) (di_list (de_var 5 rfl)) (by omega) rfl (fun u hu s H C cl fp => ⟨_, (by decide), dg_name 8 nd, fun B1 e1 =>
            de_call (fn_without T) (hr.mono (by decide)) (da_cons (de_var 8 rfl) (da_cons (de_var 7 rfl) (da_cons (de_var 6 rfl) da_nil))) (hcomp u (EqSm.line (o2 u hu)) (shr u hu))⟩)) rfl rfl) (dss_frz (i := 5) rfl ?_)
          refine dss_seq (ds_setC 2 rfl nd (dc_map [("line", 8)] os lineD (fun l => lineD (withoutL p e l)) (fun l => [.d (.int (n : Nat)), .d (linesD eqs), .d (linesD os), .m _, .m _, .d (.list _), .d (lineD e), .d (.int (p : Nat)), .d (lineD l)]) (di_list (de_var 2 rfl)) (by omega) rfl (fun u hu s H C cl fp => ⟨_, (by decide), dg_name 8 nd, fun B1 e1 =>
            de_call (fn_without T) (hr.mono (by decide)) (da_cons (de_var 8 rfl) (da_cons (de_var 7 rfl) (da_cons (de_var 6 rfl) da_nil))) (hcomp u (o3 u hu) (sh2 u hu))⟩)) rfl rfl) (dss_frz (i := 2) rfl (dss_nil ?_))
          refine ⟨rest.length, by simp, S ++ [(p, e)], L, rest.map (withoutL p e), os.map (withoutL p e), .d (lineD e), .d (.int (p : Nat)), c8, by simp, ?_, o5 p hp, ?_, ?_, by simpa using lo, by simp; omega, ?_⟩
          · unfold linesD
            rw [List.map_append, List.map_map, List.map_map]
            rfl
          · intro l hl
            obtain ⟨l', h', rfl⟩ := List.mem_map.mp hl
            exact shp_without she (shr l' h')
          · intro l hl
            obtain ⟨l', h', rfl⟩ := List.mem_map.mp hl
            exact shp_without she (sh2 l' h')
          · rw [fin, gauss_some hp]; simp
    · cases es with
      | nil => exact ⟨S, L, [], os, c6, c7, c8, rfl, rfl, ok, sh1, sh2, lo, lsum, fin⟩
      | cons e rest => exact absurd ht (by simp)
  · rintro ss' ⟨S, L, es, os, c6, c7, c8, h0, rfl, ok, sh1, sh2, lo, lsum, fin⟩
    have e0 : es = [] := List.length_eq_zero_iff.mp h0.symm
    subst e0
    refine dss_frz (i := 3) rfl (dss_frz (i := 4) rfl (dss_one (ds_ret (de_tup (da_cons (de_var 3 rfl) (da_cons (de_var 4 rfl) (da_cons (de_var 2 rfl) da_nil)))) ?_)))
    show PyData.tuple _ = gaussD _
    rw [fin, gauss_nil]
    simp [gaussD, linesD]
end
end Hk
end
section
set_option Elab.async false
set_option linter.all false
set_option maxRecDepth 100000
set_option maxHeartbeats 4000000
namespace Hk
open PySem PySem.Spec PyProof.Rows L2
open Evl (Ex)
open Hq
theorem cmp_pos (a b : Rat) : decide (0 < cmp a b) = decide (b < a) := by
  unfold cmp
  by_cases h : a < b
  · have h2 : ¬ b < a := fun q => by grind
    simp [h, h2]
  · by_cases h2 : b < a
    · simp [h, h2]
    · simp [h, h2]
theorem cmp_neg (a b : Rat) : decide (cmp a b < 0) = decide (a < b) := by
  unfold cmp
  by_cases h : a < b
  · simp [h]
  · by_cases h2 : b < a
    · simp [h, h2]
    · simp [h, h2]
theorem cmp_nought (a b : Rat) : decide (cmp a b = 0) = decide (a = b) := by
  unfold cmp
  by_cases h : a < b
  · have h2 : ¬ a = b := fun q => by grind
    simp [h, h2]
  · by_cases h2 : b < a
    · have h3 : ¬ a = b := fun q => by grind
      simp [h, h2, h3]
    · have h3 : a = b := by grind
      simp [h3]
theorem cmp_le0 (a b : Rat) : decide (cmp a b ≤ 0) = decide (a ≤ b) := by
  have h := cmp_pos a b
  have e1 : decide (cmp a b ≤ 0) = !decide (0 < cmp a b) := by
    by_cases q : 0 < cmp a b
    · have : ¬ cmp a b ≤ 0 := by omega
      simp [q]
    · have : cmp a b ≤ 0 := by omega
      simp [q, this]
  rw [e1, h]
  by_cases q : b < a
  · have : ¬ a ≤ b := fun z => by grind
    simp [q, this]
  · have : a ≤ b := by grind
    simp [q, this]
theorem cmp_ge0 (a b : Rat) : decide (0 ≤ cmp a b) = decide (b ≤ a) := by
  have h := cmp_neg a b
  have e1 : decide (0 ≤ cmp a b) = !decide (cmp a b < 0) := by
    by_cases q : cmp a b < 0
    · have : ¬ 0 ≤ cmp a b := by omega
      simp [q]
    · have : 0 ≤ cmp a b := by omega
      simp [q, this]
  rw [e1, h]
  by_cases q : a < b
  · have : ¬ b ≤ a := fun z => by grind
    simp [q, this]
  · have : b ≤ a := by grind
    simp [q, this]
def R_parts (ds : List PyData) (x : PyData) : Prop := ∃ l loose, ds = [lineD l, intsD loose] ∧ (∀ p ∈ loose, p < l.m.length) ∧ loose.length < 1000 ∧ x = .int (partsUsed l loose : Nat)
def wvD (a b f : List Line) : PyData := .tuple [linesD a, linesD b, linesD f]
def R_wv (ds : List PyData) (x : PyData) : Prop := ∃ (n k p : Nat) (ls : List Line) (loose : List Nat) (steps : Nat), ds = [.int (p : Nat), linesD ls, intsD loose, .int (steps : Nat)] ∧ p < n ∧ (∀ l ∈ ls, Shp n k l) ∧ (∀ l ∈ ls, LineSm l) ∧ (∀ q ∈ loose, q < k) ∧ loose.length < 1000 ∧
  n < 1000 ∧ k < 1000 ∧ ls.length < 100000 ∧ (noughts p ls).length + (above p ls).length * (below p ls).length < 100000 ∧ x = wvD (above p ls) (below p ls) (elimStep p loose steps ls)
theorem shp_combine {n k p : Nat} {h l : Line} (hh : Shp n k h) (hl : Shp n k l) : Shp n k (combine p h l) := by
  unfold Shp combine addedL scaledL
  simp [hh.1, hh.2, hl.1, hl.2]
theorem scaled_S {l : Line} {c : Rat} {n k : Nat} (h : LineSm l) (hc : Sm 1300 c) (hs : Shp n k l) (hn : n < 1000) (hk : k < 1000) : LineS (scaledL l c) := by
  refine ⟨fun x hx => ?_, (hc.mul h.2.1).mono (by decide), fun x hx => ?_, by simp [scaledL, hs.1, hn], by simp [scaledL, hs.2, hk]⟩
  · obtain ⟨y, hy, rfl⟩ := List.mem_map.mp hx
    exact (hc.mul (h.1 y hy)).mono (by decide)
  · obtain ⟨y, hy, rfl⟩ := List.mem_map.mp hx
    exact (hc.mul (h.2.2 y hy)).mono (by decide)
theorem line_S {l : Line} {n k : Nat} (h : LineSm l) (hs : Shp n k l) (hn : n < 1000) (hk : k < 1000) : LineS l := ⟨h.1.mono (by decide), h.2.1.mono (by decide), h.2.2.mono (by decide), by rw [hs.1]; exact hn, by rw [hs.2]; exact hk⟩
theorem pairs_len (p : Nat) (loose : List Nat) (steps : Nat) (bs : List Line) : ∀ as, (pairs p loose steps as bs).length ≤ as.length * bs.length
  | [] => by simp [pairs]
  | h :: as => by
    have ih := pairs_len p loose steps bs as
    unfold pairs at ih ⊢
    rw [List.flatMap_cons, List.length_append, List.length_cons, Nat.succ_mul]
    have := List.length_filter_le (fun c => decide (partsUsed c loose ≤ steps + 2)) (bs.map (combine p h))
    rw [List.length_map] at this
    omega
section
variable {P : Program} {w : World} {K : PySem.W.Frag} {mg : Str → Option Value} {base : Heap}
theorem sc_parts_used : FnScope ["line", "loose", "place"] ["line", "loose"] (defScope st_parts_used) := ⟨rfl, rfl, rfl, by decide +kernel, rfl, by decide +kernel, by decide +kernel⟩
theorem fn_parts_used (T : Top K mg) : FnIs P w K mg base "parts_used" ["line", "loose"] 1 R_parts := by
  refine mkD (d := dd_parts_used) T 17 rfl rfl rfl sc_parts_used (fun _ _ _ _ _ _ us hl => match us, hl with | [_, _], _ => rfl) (fun f cdv A outer s H E hr ds x hR _ => ?_)
  obtain ⟨l, loose, rfl, hp, hlo, rfl⟩ := hR
  refine dss_one (ds_ret (de_lenL (T.free _ (by decide)) (de_dl (dl_dc rfl sc_parts_used.nd (dc [("place", 2)] loose (fun i => .int (i : Nat)) (fun i => decide (getQ l.m i ≠ 0)) (fun i => .int (i : Nat)) (fun i => [.d (lineD l), .d (intsD loose), .d (.int (i : Nat))]) (di_list (de_var 1 rfl)) (by omega) rfl
    (fun u hu s H C cl fp => ⟨_, (by decide), dg_name 2 sc_parts_used.nd, fun B1 e1 => ⟨dt_is (dt_cmp (cmp_neN hr.units) (de_at (de_lm (de_var 0 rfl)) (de_var 2 rfl) (hp u hu)) (de_nought (X := Blk _ _ _ _ _ _ _) T)) (by simp), fun _ => de_var 2 rfl⟩⟩))))) ?_)
  show PyData.int _ = PyData.int _
  unfold partsUsed
  rw [List.length_map]
theorem sc_without_variable : FnScope ["place", "lines", "loose", "steps", "above", "below", "found", "high", "low", "line"] ["place", "lines", "loose", "steps"] (defScope st_without_variable) := ⟨rfl, rfl, rfl, by decide +kernel, rfl, by decide +kernel, by decide +kernel⟩
theorem fn_without_variable (T : Top K mg) : FnIs P w K mg base "without_variable" ["place", "lines", "loose", "steps"] 5 R_wv := by
  refine mkD (d := dd_without_variable) T 18 rfl rfl rfl sc_without_variable (fun _ _ _ _ _ _ us hl => match us, hl with | [_, _, _, _], _ => rfl) (fun f cdv A outer s H E hr ds x hR _ => ?_)
  obtain ⟨n, k, p, ls, loose, steps, rfl, hpn, hsh, hsm, hlo, hlo2, hn, hk, hls, hcnt, rfl⟩ := hR
  have nd := sc_without_variable.nd
  have pl : ∀ l ∈ ls, p < l.f.length := fun l hl => by rw [(hsh l hl).1]; exact hpn
  have ps : ∀ l ∈ ls, Sm 1300 (getQ l.f p) := fun l hl => (hsm l hl).1 _ (getQ_mem (pl l hl))
  refine dss_seq (ds_setC 4 rfl nd (dc [("line", 9)] ls lineD (fun l => decide (0 < getQ l.f p)) lineD (fun l => [.d (.int (p : Nat)), .d (linesD ls), .d (intsD loose), .d (.int (steps : Nat)), .no, .no, .no, .no, .no, .d (lineD l)]) (di_list (de_var 1 rfl)) hls rfl
    (fun u hu s H C cl fp => ⟨_, (by decide), dg_name 9 nd, fun B1 e1 => ⟨dt_is (dt_cmp cmp_gt (de_call (fn_compare T) (hr.mono (by decide)) (da_cons (de_at (de_lf (de_var 9 rfl)) (de_var 0 rfl) (pl u hu)) (da_cons (de_nought (X := Blk _ _ _ _ _ _ _) T) da_nil)) ⟨_, _, rfl, (ps u hu).mono (by decide), Sm.zero (by decide), trivial, rfl⟩) de_int) (cmp_pos _ _), fun _ => de_var 9 rfl⟩⟩)) rfl rfl) (dss_frz (i := 4) rfl ?_)
  refine dss_seq (ds_setC 5 rfl nd (dc [("line", 9)] ls lineD (fun l => decide (getQ l.f p < 0)) lineD (fun l => [.d (.int (p : Nat)), .d (linesD ls), .d (intsD loose), .d (.int (steps : Nat)), .d (.list _), .no, .no, .no, .no, .d (lineD l)]) (di_list (de_var 1 rfl)) hls rfl
    (fun u hu s H C cl fp => ⟨_, (by decide), dg_name 9 nd, fun B1 e1 => ⟨dt_is (dt_cmp cmp_lt (de_call (fn_compare T) (hr.mono (by decide)) (da_cons (de_at (de_lf (de_var 9 rfl)) (de_var 0 rfl) (pl u hu)) (da_cons (de_nought (X := Blk _ _ _ _ _ _ _) T) da_nil)) ⟨_, _, rfl, (ps u hu).mono (by decide), Sm.zero (by decide), trivial, rfl⟩) de_int) (cmp_neg _ _), fun _ => de_var 9 rfl⟩⟩)) rfl rfl) (dss_frz (i := 5) rfl ?_)
  refine dss_seq (ds_setC 6 rfl nd (dc [("line", 9)] ls lineD (fun l => decide (getQ l.f p = 0)) lineD (fun l => [.d (.int (p : Nat)), .d (linesD ls), .d (intsD loose), .d (.int (steps : Nat)), .d (.list _), .d (.list _), .no, .no, .no, .d (lineD l)]) (di_list (de_var 1 rfl)) hls rfl
    (fun u hu s H C cl fp => ⟨_, (by decide), dg_name 9 nd, fun B1 e1 => ⟨dt_cmp (cmp_eqN hr.units) (de_at (de_lf (de_var 9 rfl)) (de_var 0 rfl) (pl u hu)) (de_nought (X := Blk _ _ _ _ _ _ _) T), fun _ => de_var 9 rfl⟩⟩)) rfl rfl) ?_
  have mA : ∀ l ∈ above p ls, l ∈ ls := fun l hl => (List.mem_filter.mp hl).1
  have mB : ∀ l ∈ below p ls, l ∈ ls := fun l hl => (List.mem_filter.mp hl).1
  let st : List Line → SD → SD → SD → List SD := fun fnd c7 c8 c9 => [.d (.int (p : Nat)), .d (linesD ls), .d (intsD loose), .d (.int (steps : Nat)), .d (linesD (above p ls)), .d (linesD (below p ls)), .m (fnd.map lineD), c7, c8, c9]
  refine dss_cons (mid := fun s => ∃ c7 c8 c9, s = st (elimStep p loose steps ls) c7 c8 c9) (ds_for PassesOwn.never rfl (di_list (de_var 4 rfl)) (fun i s => ∃ c7 c8 c9, s = st (noughts p ls ++ pairs p loose steps ((above p ls).take i) (below p ls)) c7 c8 c9) ⟨.no, .no, .no, by simp [st, pairs, above, below, noughts, linesD]; rfl⟩ ?_ ?_) ?_
  · rintro i d ss' hd ⟨c7, c8, c9, rfl⟩
    rw [List.getElem?_map] at hd
    cases eh : (above p ls)[i]? with
    | none =>
      have := hd
      change ((above p ls)[i]?.map lineD) = some d at this
      rw [eh] at this; cases this
    | some h =>
      have e2 : d = lineD h := by
        have := hd
        change ((above p ls)[i]?.map lineD) = some d at this
        rw [eh] at this; exact (Option.some.inj this).symm
      subst e2
      have hmem := mA h (List.mem_of_getElem? eh)
      have hlt := (List.getElem?_eq_some_iff.mp eh).1
      have etake : (above p ls).take (i + 1) = (above p ls).take i ++ [h] := by
        rw [← List.take_append_getElem hlt]
        congr 1
        exact congrArg (fun z => [z]) ((List.getElem?_eq_some_iff.mp eh).2)
      refine ⟨_, _, dg_name 7 nd, fun B1 e1 => dss_one ?_⟩
      refine ds_for PassesOwn.never rfl (di_list (de_var 5 rfl)) (fun j s => ∃ c8 c9, s = st (noughts p ls ++ pairs p loose steps ((above p ls).take i) (below p ls) ++ (((below p ls).take j).map (combine p h)).filter (fun c => decide (partsUsed c loose ≤ steps + 2))) (.d (lineD h)) c8 c9) ⟨c8, c9, by simp [st]⟩ ?_ ?_
      · rintro j d ss' hd ⟨c8, c9, rfl⟩
        cases el : (below p ls)[j]? with
        | none =>
          have := hd
          change (((below p ls).map lineD)[j]?) = some d at this
          rw [List.getElem?_map, el] at this; cases this
        | some l =>
          have e2 : d = lineD l := by
            have := hd
            change (((below p ls).map lineD)[j]?) = some d at this
            rw [List.getElem?_map, el] at this; exact (Option.some.inj this).symm
          subst e2
          have lmem := mB l (List.mem_of_getElem? el)
          have llt := (List.getElem?_eq_some_iff.mp el).1
          have etl : (below p ls).take (j + 1) = (below p ls).take j ++ [l] := by
            rw [← List.take_append_getElem llt]
            congr 1
            exact congrArg (fun z => [z]) ((List.getElem?_eq_some_iff.mp el).2)
          have sh := shp_combine (p := p) (hsh h hmem) (hsh l lmem)
          have hS1 := scaled_S (hsm h hmem) (ps l lmem).nsub (hsh h hmem) hn hk
          have hS2 := scaled_S (hsm l lmem) (ps h hmem) (hsh l lmem) hn hk
          refine ⟨_, _, dg_name 8 nd, fun B2 e2 => dss_seq (ds_set 9 nd (d := lineD (combine p h l)) (de_call (fn_added T) (hr.mono (by decide)) (da_cons (de_call (fn_scaled T) (hr.mono (by decide)) (da_cons (de_var 7 rfl) (da_cons (de_call (fn_minus T) (hr.mono (by decide)) (da_cons (de_nought T) (da_cons (de_at (de_lf (de_var 8 rfl)) (de_var 0 rfl) (pl l lmem)) da_nil))
              ⟨_, _, rfl, Sm.zero (by decide), (ps l lmem).mono (by decide), trivial, rfl⟩) da_nil)) ⟨_, _, rfl, (ps l lmem).nsub.mono (by decide), line_S (hsm h hmem) (hsh h hmem) hn hk, rfl⟩)
            (da_cons (de_call (fn_scaled T) (hr.mono (by decide)) (da_cons (de_var 8 rfl) (da_cons (de_at (de_lf (de_var 7 rfl)) (de_var 0 rfl) (pl h hmem)) da_nil)) ⟨_, _, rfl, (ps h hmem).mono (by decide), line_S (hsm l lmem) (hsh l lmem) hn hk, rfl⟩) da_nil)) ⟨_, _, rfl, hS1, hS2, rfl⟩) rfl) ?_⟩
          have hcmp : decide (((partsUsed (combine p h l) loose : Nat) : Int) ≤ (steps : Int) + 2) = decide (partsUsed (combine p h l) loose ≤ steps + 2) := by
            by_cases q : partsUsed (combine p h l) loose ≤ steps + 2
            · have : ((partsUsed (combine p h l) loose : Nat) : Int) ≤ (steps : Int) + 2 := by omega
              simp [q, this]
            · have : ¬ ((partsUsed (combine p h l) loose : Nat) : Int) ≤ (steps : Int) + 2 := by omega
              simp [q, this]
          refine dss_one (ds_if (dt_is (dt_cmp cmp_le (de_call (fn_parts_used T) (hr.mono (by decide)) (da_cons (de_var 9 rfl) (da_cons (de_var 2 rfl) da_nil)) ⟨_, _, rfl, fun q hq => by rw [sh.2]; exact hlo q hq, hlo2, rfl⟩) (de_add (de_var 3 rfl) de_int)) hcmp) (fun hq => dss_one (ds_app 6 rfl (de_var 9 rfl) ?_ ?_)) (fun hq => dss_nil ?_))
          · rw [List.length_map, List.length_append, List.length_append]
            have l1 := pairs_len p loose steps (below p ls) ((above p ls).take i)
            have l2 := List.length_filter_le (fun c => decide (partsUsed c loose ≤ steps + 2)) (((below p ls).take j).map (combine p h))
            rw [List.length_map, List.length_take] at l2
            rw [List.length_take, Nat.min_eq_left (Nat.le_of_lt hlt)] at l1
            have l3 : (i + 1) * (below p ls).length ≤ (above p ls).length * (below p ls).length := Nat.mul_le_mul_right _ hlt
            rw [Nat.succ_mul] at l3
            omega
          · refine ⟨.d (lineD l), .d (lineD (combine p h l)), ?_⟩
            have hq' : decide (partsUsed (combine p h l) loose ≤ steps + 2) = true := hq
            simp [st, etl, List.filter_cons, hq', List.append_assoc]
          · refine ⟨.d (lineD l), .d (lineD (combine p h l)), ?_⟩
            have hq' : decide (partsUsed (combine p h l) loose ≤ steps + 2) = false := hq
            simp [st, etl, List.filter_cons, hq']
      · rintro ss' ⟨c8, c9, rfl⟩
        refine ⟨.d (lineD h), c8, c9, ?_⟩
        have e3 : ((below p ls).map lineD).length = (below p ls).length := List.length_map _
        show st _ _ _ _ = st _ _ _ _
        have e4 : (below p ls).take ((below p ls).map lineD).length = below p ls := by rw [e3, List.take_length]
        rw [etake]
        simp only [st]
        unfold pairs
        rw [List.flatMap_append, List.flatMap_cons, List.flatMap_nil, List.append_nil, ← List.append_assoc]
        rw [e4]
  · rintro ss' ⟨c7, c8, c9, rfl⟩
    refine ⟨c7, c8, c9, ?_⟩
    have e4 : (above p ls).take (List.filter (fun l => decide (0 < getQ l.f p)) ls |>.map lineD).length = above p ls := by
      rw [List.length_map]
      exact List.take_length
    rw [e4]
    rfl
  · rintro ss' ⟨c7, c8, c9, rfl⟩
    exact dss_frz (i := 6) rfl (dss_one (ds_ret (de_tup (da_cons (de_var 4 rfl) (da_cons (de_var 5 rfl) (da_cons (de_var 6 rfl) da_nil)))) rfl))
end
end Hk
end
section
set_option Elab.async false
set_option linter.all false
set_option maxRecDepth 100000
set_option maxHeartbeats 4000000
namespace Hk
open PySem PySem.Spec PyProof.Rows L2
open Evl (Ex)
open Hq
theorem map_get {α : Type} {f : α → PyData} {xs : List α} {i : Nat} {d : PyData} (h : (xs.map f)[i]? = some d) : ∃ x, xs[i]? = some x ∧ d = f x ∧ i < xs.length ∧ x ∈ xs ∧ xs.take (i + 1) = xs.take i ++ [x] := by
  rw [List.getElem?_map] at h
  cases e : xs[i]? with
  | none => rw [e] at h; cases h
  | some x =>
    rw [e] at h
    have hi := (List.getElem?_eq_some_iff.mp e).1
    refine ⟨x, rfl, (Option.some.inj h).symm, hi, List.mem_of_getElem? e, ?_⟩
    rw [← List.take_append_getElem hi]
    congr 1
    exact congrArg (fun z => [z]) ((List.getElem?_eq_some_iff.mp e).2)
/-! ### rows as data -/
def signS (b : Bool) : Str := if b then "=" else "<="
def rowD (r : RowQ) : PyData := .tuple [numL r.f, .str (signS r.eq), num r.b]
def rowsD (rows : List RowQ) : PyData := .list (rows.map rowD)
def stageD (s : Nat × List Line × List Line) : PyData := .tuple [.int (s.1 : Nat), linesD s.2.1, linesD s.2.2]
def stagesD (s : List (Nat × List Line × List Line)) : PyData := .list (s.map stageD)
theorem sign_ne (b : Bool) : (!decide (signS b = ("=" : Str))) = !b := by cases b <;> decide +kernel
theorem sign_eq (b : Bool) : decide (signS b = ("=" : Str)) = b := by cases b <;> decide +kernel
theorem sign_lt (b : Bool) : decide (signS b = ("<" : Str)) = false := by cases b <;> decide +kernel
theorem shp_elimStep {n k p steps : Nat} {loose : List Nat} {ls : List Line} (h : ∀ l ∈ ls, Shp n k l) : ∀ l ∈ elimStep p loose steps ls, Shp n k l := by
  intro l hl
  unfold elimStep at hl
  rcases List.mem_append.mp hl with hl | hl
  · exact h l (List.mem_filter.mp hl).1
  · unfold pairs at hl
    obtain ⟨a, ha, hl⟩ := List.mem_flatMap.mp hl
    obtain ⟨hl, _⟩ := List.mem_filter.mp hl
    obtain ⟨b, hb, rfl⟩ := List.mem_map.mp hl
    exact shp_combine (h a (List.mem_filter.mp ha).1) (h b (List.mem_filter.mp hb).1)
theorem shp_elim {n k : Nat} {loose : List Nat} {ls : List Line} (h : ∀ l ∈ ls, Shp n k l) : ∀ i, ∀ l ∈ (elim loose ls i).2.1, Shp n k l
  | 0 => h
  | i + 1 => shp_elimStep (shp_elim h i)
def ElimOk (loose : List Nat) (ls : List Line) (n : Nat) : Prop := ∀ i, i < n → (∀ l ∈ (elim loose ls i).2.1, LineSm l) ∧ (elim loose ls i).2.1.length < 100000 ∧
  (noughts i (elim loose ls i).2.1).length + (above i (elim loose ls i).2.1).length * (below i (elim loose ls i).2.1).length < 100000
def R_elim (ds : List PyData) (x : PyData) : Prop := ∃ n rows ls, ds = [.int (n : Nat), rowsD rows, linesD ls] ∧ n < 1000 ∧ rows.length < 1000 ∧ (∀ l ∈ ls, Shp n rows.length l) ∧ ElimOk (looseOf rows) ls n ∧
  x = .tuple [stagesD (elim (looseOf rows) ls n).1, linesD (elim (looseOf rows) ls n).2.1]
theorem elim_stages (loose : List Nat) (ls : List Line) : ∀ n, (elim loose ls n).1.length = n
  | 0 => rfl
  | n + 1 => by
    show ((elim loose ls n).1 ++ [_]).length = n + 1
    rw [List.length_append, elim_stages loose ls n]; rfl
section
variable {P : Program} {w : World} {K : PySem.W.Frag} {mg : Str → Option Value} {base : Heap}
theorem sc_eliminated : FnScope ["count", "rows", "lines", "loose", "stages", "steps", "place", "above", "below"] ["count", "rows", "lines"] (defScope st_eliminated) := ⟨rfl, rfl, rfl, by decide +kernel, rfl, by decide +kernel, by decide +kernel⟩
theorem fn_eliminated (T : Top K mg) : FnIs P w K mg base "eliminated" ["count", "rows", "lines"] 6 R_elim := by
  refine mkD (d := dd_eliminated) T 19 rfl rfl rfl sc_eliminated (fun _ _ _ _ _ _ us hl => match us, hl with | [_, _, _], _ => rfl) (fun f cdv A outer s H E hr ds x hR _ => ?_)
  obtain ⟨n, rows, ls, rfl, hn, hrl, hsh, ok, rfl⟩ := hR
  have nd := sc_eliminated.nd
  refine dss_seq (ds_setC 3 rfl nd (dc [("place", 6)] (List.range rows.length) (fun i => .int (i : Nat)) (fun i => !((rows[i]?.map (·.eq)).getD true)) (fun i => .int (i : Nat)) (fun i => [.d (.int (n : Nat)), .d (rowsD rows), .d (linesD ls), .no, .no, .no, .d (.int (i : Nat)), .no, .no])
    (by rw [← rgD_map]; exact di_rng (T.free _ (by decide)) (de_lenL (T.free _ (by decide)) (de_var 1 rfl)) (by rw [List.length_map]) (by omega)) (by rw [List.length_range]; omega) rfl
    (fun u hu s H C cl fp => ⟨_, (by decide), dg_name 6 nd, fun B1 e1 => ⟨?_, fun _ => de_var 6 rfl⟩⟩)) rfl rfl) (dss_frz (i := 3) rfl ?_)
  · have hlt := List.mem_range.mp hu
    rw [List.getElem?_eq_getElem hlt]
    show DT _ _ _ _ (!rows[u].eq)
    rw [← sign_ne]
    exact dt_cmp cmp_neS (de_ixT (de_ixL (de_var 1 rfl) (de_var 6 rfl) (atI_map rowD (List.getElem?_eq_getElem hlt))) de_int rfl) de_str
  refine dss_seq (ds_setL 4 nd (dl_lst da_nil) rfl) (dss_seq (ds_set 5 nd de_int rfl) ?_)
  have hlo : ∀ q ∈ looseOf rows, q < rows.length := fun q hq => List.mem_range.mp (List.mem_filter.mp hq).1
  have hlo2 : (looseOf rows).length < 1000 := by
    have := List.length_filter_le (fun i => !((rows[i]?.map (·.eq)).getD true)) (List.range rows.length)
    rw [List.length_range] at this
    unfold looseOf
    omega
  let st : Nat → SD → SD → SD → List SD := fun i c6 c7 c8 => [.d (.int (n : Nat)), .d (rowsD rows), .d (linesD (elim (looseOf rows) ls i).2.1), .d (intsD (looseOf rows)), .m ((elim (looseOf rows) ls i).1.map stageD), .d (.int ((elim (looseOf rows) ls i).2.2 : Nat)), c6, c7, c8]
  refine dss_cons (mid := fun s => ∃ c6 c7 c8, s = st n c6 c7 c8) (ds_for PassesOwn.never rfl (di_rng (m := n) (T.free _ (by decide)) (de_var 0 rfl) rfl (by omega)) (fun i s => ∃ c6 c7 c8, s = st i c6 c7 c8) ⟨.no, .no, .no, rfl⟩ ?_ ?_) ?_
  · rintro i d ss' hd ⟨c6, c7, c8, rfl⟩
    obtain ⟨rfl, hi⟩ := rgD_get hd
    rw [Int.zero_add]
    obtain ⟨o1, o2, o3⟩ := ok i hi
    refine ⟨_, _, dg_name 6 nd, fun B1 e1 => ?_⟩
    refine dss_seq (ds_asg (de_call (d := wvD (above i (elim (looseOf rows) ls i).2.1) (below i (elim (looseOf rows) ls i).2.1) (elimStep i (looseOf rows) (elim (looseOf rows) ls i).2.2 (elim (looseOf rows) ls i).2.1)) (fn_without_variable T) hr (da_cons (de_var 6 rfl) (da_cons (de_var 2 rfl) (da_cons (de_var 3 rfl) (da_cons (de_var 5 rfl) da_nil))))
      ⟨n, rows.length, i, _, _, _, rfl, hi, shp_elim hsh i, o1, hlo, hlo2, hn, hrl, o2, o3, rfl⟩) (dg_tup rfl (dgs_cons (dg_name 7 nd) (dgs_cons (dg_name 8 nd) (dgs_cons (dg_name 2 nd) dgs_nil)))) rfl) ?_
    refine dss_seq (ds_app 4 rfl (de_tup (da_cons (de_var 6 rfl) (da_cons (de_var 7 rfl) (da_cons (de_var 8 rfl) da_nil)))) (by rw [List.length_map, elim_stages]; omega) rfl) ?_
    have e1 : (elim (looseOf rows) ls (i + 1)).1.map stageD = (elim (looseOf rows) ls i).1.map stageD ++ [.tuple [.int (i : Nat), linesD (above i (elim (looseOf rows) ls i).2.1), linesD (below i (elim (looseOf rows) ls i).2.1)]] := by
      show ((elim (looseOf rows) ls i).1 ++ [_]).map stageD = _
      rw [List.map_append]; rfl
    refine dss_one (ds_if (dt_w (dw_or (dt_list (de_var 7 rfl)) fun _ => dw_or1 (dt_list (de_var 8 rfl)))) (fun h => dss_one (ds_aug 5 nd rfl de_int ?_)) (fun h => dss_nil ?_))
    · refine ⟨.d (.int (i : Nat)), .d (linesD (above i (elim (looseOf rows) ls i).2.1)), .d (linesD (below i (elim (looseOf rows) ls i).2.1)), ?_⟩
      show _ = st (i + 1) _ _ _
      have e2 : (elim (looseOf rows) ls (i + 1)).2.2 = (elim (looseOf rows) ls i).2.2 + 1 := by
        show stepsOf _ _ _ = _
        unfold stepsOf
        rw [if_neg]
        rw [List.isEmpty_map, List.isEmpty_map] at h
        intro q
        rw [Bool.and_eq_true] at q
        rw [q.1, q.2] at h
        cases h
      simp only [st]
      rw [e1, e2]
      rfl
    · refine ⟨.d (.int (i : Nat)), .d (linesD (above i (elim (looseOf rows) ls i).2.1)), .d (linesD (below i (elim (looseOf rows) ls i).2.1)), ?_⟩
      show _ = st (i + 1) _ _ _
      have e2 : (elim (looseOf rows) ls (i + 1)).2.2 = (elim (looseOf rows) ls i).2.2 := by
        show stepsOf _ _ _ = _
        unfold stepsOf
        rw [if_pos]
        rw [List.isEmpty_map, List.isEmpty_map] at h
        simpa using h
      simp only [st]
      rw [e1, e2]
      rfl
  · rintro ss' ⟨c6, c7, c8, rfl⟩
    exact ⟨c6, c7, c8, by rw [rgD_len]⟩
  · rintro ss' ⟨c6, c7, c8, rfl⟩
    exact dss_frz (i := 4) rfl (dss_one (ds_ret (de_tup (da_cons (de_var 4 rfl) (da_cons (de_var 2 rfl) da_nil))) rfl))
end
end Hk
end
section
set_option Elab.async false
set_option linter.all false
set_option maxRecDepth 100000
set_option maxHeartbeats 4000000
namespace Hk
open PySem PySem.Spec PyProof.Rows L2
open Evl (Ex)
open Hq
def limD (q : Rat) : PyData := .tuple [num q, .bool false]
def limsD (xs : List Rat) : PyData := .list (xs.map limD)
def R_limits (ds : List PyData) (x : PyData) : Prop := ∃ p ls y, ds = [.int (p : Nat), linesD ls, numL y] ∧ (∀ l ∈ ls, LimOk p l y) ∧ ls.length < 100000 ∧ x = limsD (limits p ls y)
def R_between (ds : List PyData) (x : PyData) : Prop := ∃ v lows highs, ds = [num v, limsD lows, limsD highs] ∧ Sm 4400 v ∧ AllSm 4400 lows ∧ AllSm 4400 highs ∧ x = .bool (between v lows highs)
def R_greatest (ds : List PyData) (x : PyData) : Prop := ∃ xs, ds = [numL xs] ∧ xs ≠ [] ∧ AllSm 4400 xs ∧ x = num (greatest xs)
def R_least (ds : List PyData) (x : PyData) : Prop := ∃ xs, ds = [numL xs] ∧ xs ≠ [] ∧ AllSm 4400 xs ∧ xs.length < 100000 ∧ x = num (least xs)
def R_chosen (ds : List PyData) (x : PyData) : Prop := ∃ lows highs, ds = [limsD lows, limsD highs] ∧ ChosenOk lows highs ∧ x = num (chosen lows highs)
section
variable {P : Program} {w : World} {K : PySem.W.Frag} {mg : Str → Option Value} {base : Heap}
theorem sc_limits : FnScope ["place", "lines", "numbers", "found", "line"] ["place", "lines", "numbers"] (defScope st_limits) := ⟨rfl, rfl, rfl, by decide +kernel, rfl, by decide +kernel, by decide +kernel⟩
theorem fn_limits (T : Top K mg) : FnIs P w K mg base "limits" ["place", "lines", "numbers"] 5 R_limits := by
  refine mkD (d := dd_limits) T 20 rfl rfl rfl sc_limits (fun _ _ _ _ _ _ us hl => match us, hl with | [_, _, _], _ => rfl) (fun f cdv A outer s H E hr ds x hR _ => ?_)
  obtain ⟨p, ls, y, rfl, ok, hl, rfl⟩ := hR
  have nd := sc_limits.nd
  refine dss_seq (ds_setL 3 nd (dl_lst da_nil) rfl) ?_
  refine dss_cons (mid := fun s => ∃ c4, s = [.d (.int (p : Nat)), .d (linesD ls), .d (numL y), .m ((limits p ls y).map limD), c4]) (ds_for PassesOwn.never rfl (di_list (de_var 1 rfl)) (fun i s => ∃ c4, s = [.d (.int (p : Nat)), .d (linesD ls), .d (numL y), .m ((limits p (ls.take i) y).map limD), c4]) ⟨.no, rfl⟩ ?_ ?_) ?_
  · rintro i d ss' hd ⟨c4, rfl⟩
    obtain ⟨l, _, rfl, hi, hm, ht⟩ := map_get hd
    obtain ⟨o1, o2, o3, o4, o5, o6, o7⟩ := ok l hm
    have sd : Sm 4400 (dotQ l.f y) := by
      have := o3.2 _ (Nat.le_refl _)
      rwa [List.take_length] at this
    have sp : Sm 4400 (getQ l.f p) := (o1.1 _ (getQ_mem o6)).mono (by decide)
    refine ⟨_, _, dg_name 4 nd, fun B1 e1 => dss_one (ds_app 3 rfl (de_tup (da_cons (de_call (fn_divided T) (hr.mono (by decide)) (da_cons (de_call (fn_minus T) (hr.mono (by decide)) (da_cons (de_lb (de_var 4 rfl)) (da_cons (de_call (fn_dot T) hr (da_cons (de_lf (de_var 4 rfl)) (da_cons (de_var 2 rfl) da_nil)) ⟨_, _, rfl, o1.1.mono (by decide), o2, o7, o3, rfl⟩) da_nil)) ⟨_, _, rfl, o1.2.1.mono (by decide), sd, trivial, rfl⟩)
      (da_cons (de_at (de_lf (de_var 4 rfl)) (de_var 0 rfl) o6) da_nil)) ⟨_, _, rfl, o4, sp, o5, rfl⟩) (da_cons (de_ls (de_var 4 rfl)) da_nil))) (by simp [limits]; omega) ⟨.d (lineD l), ?_⟩)⟩
    rw [ht]
    simp [limits, limD]
  · rintro ss' ⟨c4, rfl⟩
    exact ⟨c4, by rw [List.length_map, List.take_length]⟩
  · rintro ss' ⟨c4, rfl⟩
    exact dss_frz (i := 3) rfl (dss_one (ds_ret (de_var 3 rfl) rfl))
theorem sc_lies_between : FnScope ["value", "lows", "highs", "low", "strict", "high"] ["value", "lows", "highs"] (defScope st_lies_between) := ⟨rfl, rfl, rfl, by decide +kernel, rfl, by decide +kernel, by decide +kernel⟩
theorem fn_lies_between (T : Top K mg) : FnIs P w K mg base "lies_between" ["value", "lows", "highs"] 2 R_between := by
  refine mkD (d := dd_lies_between) T 21 rfl rfl rfl sc_lies_between (fun _ _ _ _ _ _ us hl => match us, hl with | [_, _, _], _ => rfl) (fun f cdv A outer s H E hr ds x hR _ => ?_)
  obtain ⟨v, lows, highs, rfl, hv, hlo, hhi, rfl⟩ := hR
  have nd := sc_lies_between.nd
  have lt_le : ∀ a b : Rat, ¬ a < b → b ≤ a := fun a b q => by grind
  refine dss_cons (mid := fun s => (∃ c3 c4 c5, s = [.d (num v), .d (limsD lows), .d (limsD highs), c3, c4, c5]) ∧ ∀ l ∈ lows, l ≤ v) (ds_for PassesOwn.never rfl (di_list (de_var 1 rfl)) (fun i s => (∃ c3 c4 c5, s = [.d (num v), .d (limsD lows), .d (limsD highs), c3, c4, c5]) ∧ ∀ l ∈ lows.take i, l ≤ v) ⟨⟨.no, .no, .no, rfl⟩, fun l hl => by simp at hl⟩ ?_ ?_) ?_
  · rintro i d ss' hd ⟨⟨c3, c4, c5, rfl⟩, hle⟩
    obtain ⟨l, _, rfl, hi, hm, ht⟩ := map_get hd
    refine ⟨_, _, dg_tup rfl (dgs_cons (dg_name 3 nd) (dgs_cons (dg_name 4 nd) dgs_nil)), fun B1 e1 => dss_one (ds_if (dt_is (dt_cmp cmp_lt (de_call (fn_compare T) (hr.mono (by decide)) (da_cons (de_var 0 rfl) (da_cons (de_var 3 rfl) da_nil)) ⟨_, _, rfl, hv, hlo l hm, trivial, rfl⟩) (de_intB (T.free _ (by decide)) (de_var 4 rfl))) (cmp_neg v l)) (fun h => dss_one (ds_ret de_bl ?_)) (fun h => dss_nil ⟨⟨_, _, _, rfl⟩, ?_⟩))⟩
    · have h' := of_decide_eq_true h
      show PyData.bool false = .bool (between v lows highs)
      unfold between
      have : lows.all (fun l => decide (l ≤ v)) = false := by
        rw [List.all_eq_false]
        exact ⟨l, hm, by have : ¬ l ≤ v := fun q => by grind
                         simp [this]⟩
      rw [this]; rfl
    · intro z hz
      rw [ht] at hz
      rcases List.mem_append.mp hz with hz | hz
      · exact hle z hz
      · have e : z = l := by simpa using hz
        rw [e]
        exact lt_le _ _ (of_decide_eq_false h)
  · rintro ss' ⟨q, hle⟩
    refine ⟨q, ?_⟩
    rw [List.length_map, List.take_length] at hle
    exact hle
  rintro ss' ⟨⟨c3, c4, c5, rfl⟩, hle⟩
  have hA : lows.all (fun l => decide (l ≤ v)) = true := by
    rw [List.all_eq_true]
    exact fun l hl => decide_eq_true (hle l hl)
  refine dss_cons (mid := fun s => ∀ h ∈ highs, v ≤ h) (ds_for PassesOwn.never rfl (di_list (de_var 2 rfl)) (fun i s => (∃ c3 c4 c5, s = [.d (num v), .d (limsD lows), .d (limsD highs), c3, c4, c5]) ∧ ∀ h ∈ highs.take i, v ≤ h) ⟨⟨c3, c4, c5, rfl⟩, fun l hl => by simp at hl⟩ ?_ ?_) ?_
  · rintro i d ss' hd ⟨⟨c3, c4, c5, rfl⟩, hle2⟩
    obtain ⟨l, _, rfl, hi, hm, ht⟩ := map_get hd
    refine ⟨_, _, dg_tup rfl (dgs_cons (dg_name 5 nd) (dgs_cons (dg_name 4 nd) dgs_nil)), fun B1 e1 => dss_one (ds_if (dt_is (dt_cmp cmp_lt (de_call (fn_compare T) (hr.mono (by decide)) (da_cons (de_var 5 rfl) (da_cons (de_var 0 rfl) da_nil)) ⟨_, _, rfl, hhi l hm, hv, trivial, rfl⟩) (de_intB (T.free _ (by decide)) (de_var 4 rfl))) (cmp_neg l v)) (fun h => dss_one (ds_ret de_bl ?_)) (fun h => dss_nil ⟨⟨_, _, _, rfl⟩, ?_⟩))⟩
    · have h' := of_decide_eq_true h
      show PyData.bool false = .bool (between v lows highs)
      unfold between
      have : highs.all (fun h => decide (v ≤ h)) = false := by
        rw [List.all_eq_false]
        exact ⟨l, hm, by have : ¬ v ≤ l := fun q => by grind
                         simp [this]⟩
      rw [this, Bool.and_false]
    · intro z hz
      rw [ht] at hz
      rcases List.mem_append.mp hz with hz | hz
      · exact hle2 z hz
      · have e : z = l := by simpa using hz
        rw [e]
        exact lt_le _ _ (of_decide_eq_false h)
  · rintro ss' ⟨q, hle2⟩
    rw [List.length_map, List.take_length] at hle2
    exact hle2
  · intro ss' hle2
    refine dss_one (ds_ret de_bl ?_)
    show PyData.bool true = .bool (between v lows highs)
    unfold between
    have : highs.all (fun h => decide (v ≤ h)) = true := by
      rw [List.all_eq_true]
      exact fun l hl => decide_eq_true (hle2 l hl)
    rw [hA, this]; rfl
theorem sc_greatest : FnScope ["numbers", "best", "one"] ["numbers"] (defScope st_greatest) := ⟨rfl, rfl, rfl, by decide +kernel, rfl, by decide +kernel, by decide +kernel⟩
theorem fn_greatest (T : Top K mg) : FnIs P w K mg base "greatest" ["numbers"] 2 R_greatest := by
  refine mkD (d := dd_greatest) T 22 rfl rfl rfl sc_greatest (fun _ _ _ _ _ _ us hl => match us, hl with | [_], _ => rfl) (fun f cdv A outer s H E hr ds x hR _ => ?_)
  obtain ⟨xs, rfl, h0, hs, rfl⟩ := hR
  have nd := sc_greatest.nd
  cases xs with
  | nil => exact absurd rfl h0
  | cons x0 xs =>
  refine dss_seq (ds_set 1 nd (d := num x0) (de_ixL (de_var 0 rfl) de_int (atI_nat (j := 0) rfl)) rfl) ?_
  let gf : Rat → Rat → Rat := fun b y => if b < y then y else b
  refine dss_cons (mid := fun s => ∃ c2, s = [.d (numL (x0 :: xs)), .d (num (greatest (x0 :: xs))), c2]) (ds_for PassesOwn.never rfl (di_list (de_var 0 rfl)) (fun i s => ∃ c2, s = [.d (numL (x0 :: xs)), .d (num (((x0 :: xs).take i).foldl gf x0)), c2] ∧ ((x0 :: xs).take i).foldl gf x0 ∈ x0 :: xs) ⟨.no, rfl, List.mem_cons_self⟩ ?_ ?_) ?_
  · rintro i d ss' hd ⟨c2, rfl, hmem⟩
    obtain ⟨y, _, rfl, hi, hm, ht⟩ := map_get hd
    refine ⟨_, _, dg_name 2 nd, fun B1 e1 => dss_one (ds_if (dt_is (dt_cmp cmp_gt (de_call (fn_compare T) hr (da_cons (de_var 2 rfl) (da_cons (de_var 1 rfl) da_nil)) ⟨_, _, rfl, hs y hm, hs _ hmem, trivial, rfl⟩) de_int) (cmp_pos _ _)) (fun h => dss_one (ds_set 1 nd (de_var 2 rfl) ?_)) (fun h => dss_nil ?_))⟩
    · have h' := of_decide_eq_true h
      have e : ((x0 :: xs).take (i + 1)).foldl gf x0 = y := by
        rw [ht, List.foldl_append]
        show gf _ y = y
        simp only [gf]
        rw [if_pos h']
      show ∃ c2, _ ∧ _
      rw [e]
      exact ⟨.d (num y), rfl, hm⟩
    · have h' := of_decide_eq_false h
      have e : ((x0 :: xs).take (i + 1)).foldl gf x0 = ((x0 :: xs).take i).foldl gf x0 := by
        rw [ht, List.foldl_append]
        show gf _ y = _
        simp only [gf]
        rw [if_neg h']
      show ∃ c2, _ ∧ _
      rw [e]
      exact ⟨.d (num y), rfl, hmem⟩
  · rintro ss' ⟨c2, rfl, _⟩
    exact ⟨c2, by rw [List.length_map, List.take_length]; rfl⟩
  · rintro ss' ⟨c2, rfl⟩
    exact dss_one (ds_ret (de_var 1 rfl) rfl)
theorem sc_least : FnScope ["numbers", "one"] ["numbers"] (defScope st_least) := ⟨rfl, rfl, rfl, by decide +kernel, rfl, by decide +kernel, by decide +kernel⟩
theorem fn_least (T : Top K mg) : FnIs P w K mg base "least" ["numbers"] 3 R_least := by
  refine mkD (d := dd_least) T 23 rfl rfl rfl sc_least (fun _ _ _ _ _ _ us hl => match us, hl with | [_], _ => rfl) (fun f cdv A outer s H E hr ds x hR _ => ?_)
  obtain ⟨xs, rfl, h0, hs, hl, rfl⟩ := hR
  have h2 : xs.map (fun x => 0 - x) ≠ [] := by simpa using h0
  have hs2 : AllSm 4400 (xs.map (fun x => 0 - x)) := fun y hy => by
    obtain ⟨z, hz, rfl⟩ := List.mem_map.mp hy
    exact (hs z hz).nsub
  refine dss_one (ds_ret (de_call (fn_minus T) (hr.mono (by decide)) (da_cons (de_nought T) (da_cons (de_call (fn_greatest T) hr (da_cons (d := numL (xs.map fun x => 0 - x)) (de_is (de_dl (dl_dc rfl sc_least.nd (dc_map [("one", 1)] xs num (fun q => num (0 - q)) (fun q => [.d (numL xs), .d (num q)]) (di_list (de_var 0 rfl)) hl rfl (fun u hu s H C cl fp => ⟨_, (by decide), dg_name 1 sc_least.nd, fun B1 e1 =>
    de_call (fn_minus T) (hr.mono (by decide)) (da_cons (de_nought (X := Blk _ _ _ _ _ _ _) T) (da_cons (de_var 1 rfl) da_nil)) ⟨_, _, rfl, Sm.zero (by decide), hs u hu, trivial, rfl⟩⟩)))) (by unfold numL; rw [List.map_map]; rfl)) da_nil) ⟨_, rfl, h2, hs2, rfl⟩) da_nil)) ⟨_, _, rfl, Sm.zero (by decide), hs2 _ (greatest_mem h2), trivial, rfl⟩) rfl)
end
end Hk
end
section
set_option Elab.async false
set_option linter.all false
set_option maxRecDepth 100000
set_option maxHeartbeats 4000000
namespace Hk
open PySem PySem.Spec PyProof.Rows L2
open Evl (Ex)
open Hq
theorem isEmpty_limD (xs : List Rat) : (!(xs.map limD).isEmpty) = !xs.isEmpty := by rw [List.isEmpty_map]
theorem ne_of_isEmpty {xs : List Rat} (h : (!xs.isEmpty) = true) : xs ≠ [] := fun q => by rw [q] at h; cases h
def tried1 (lows : List Rat) : List Rat := [0] ++ (if lows.isEmpty then [] else [greatest lows, greatest lows + 1])
def tried2 (lows highs : List Rat) : List Rat := tried1 lows ++ (if highs.isEmpty then [] else [least highs, least highs - 1])
theorem tried_eq (lows highs : List Rat) : tried lows highs = tried2 lows highs ++ (if lows.isEmpty || highs.isEmpty then [] else [(greatest lows + least highs) / 2]) := by
  unfold tried tried2 tried1
  rfl
theorem num_two : num 2 = PyData.tuple [.int 2, .int 1] := rfl
theorem tried_sm {lows highs : List Rat} (ok : ChosenOk lows highs) : AllSm 4400 (tried lows highs) := by
  obtain ⟨o1, o2, _, _, o5, o6, o7⟩ := ok
  intro x hx
  unfold tried at hx
  rcases List.mem_append.mp hx with hx | hx
  · rcases List.mem_append.mp hx with hx | hx
    · rcases List.mem_append.mp hx with hx | hx
      · have : x = 0 := by simpa using hx
        rw [this]; exact Sm.zero (by decide)
      · cases lows with
        | nil => simp at hx
        | cons a as =>
          have : x = greatest (a :: as) ∨ x = greatest (a :: as) + 1 := by simpa using hx
          rcases this with h | h
          · rw [h]; exact (o1 _ (greatest_mem (by simp))).mono (by decide)
          · rw [h]; exact (o6 (by simp)).mono (by decide)
    · cases highs with
      | nil => simp at hx
      | cons a as =>
        have : x = least (a :: as) ∨ x = least (a :: as) - 1 := by simpa using hx
        rcases this with h | h
        · rw [h]; exact (o2 _ (least_neg_mem (by simp))).mono (by decide)
        · rw [h]; exact (o7 (by simp)).mono (by decide)
  · cases lows with
    | nil => simp at hx
    | cons a as =>
      cases highs with
      | nil => simp at hx
      | cons b bs =>
        have : x = (greatest (a :: as) + least (b :: bs)) / 2 := by simpa using hx
        rw [this]
        have h2 : Sm 2 (2 : Rat) := ⟨by decide, by decide⟩
        exact ((o5 (by simp) (by simp)).div h2 (by decide)).mono (by decide)
section
variable {P : Program} {w : World} {K : PySem.W.Frag} {mg : Str → Option Value} {base : Heap}
theorem sc_chosen : FnScope ["lows", "highs", "tried", "low", "high", "value", "limit", "strict"] ["lows", "highs"] (defScope st_chosen) := ⟨rfl, rfl, rfl, by decide +kernel, rfl, by decide +kernel, by decide +kernel⟩
theorem fn_chosen (T : Top K mg) : FnIs P w K mg base "chosen" ["lows", "highs"] 4 R_chosen := by
  refine mkD (d := dd_chosen) T 24 rfl rfl rfl sc_chosen (fun _ _ _ _ _ _ us hl => match us, hl with | [_, _], _ => rfl) (fun f cdv A outer s H E hr ds x hR _ => ?_)
  obtain ⟨lows, highs, rfl, ok, rfl⟩ := hR
  have hts := tried_sm ok
  obtain ⟨o1, o2, o3, o4, o5, o6, o7⟩ := ok
  have nd := sc_chosen.nd
  let st : List Rat → SD → SD → List SD := fun tr c3 c4 => [.d (limsD lows), .d (limsD highs), .m (tr.map num), c3, c4, .no, .no, .no]
  refine dss_seq (ds_setL 2 nd (dl_lst (da_cons (de_nought T) da_nil)) rfl) ?_
  refine dss_cons (mid := fun s => ∃ c3, s = st (tried1 lows) c3 .no ∧ (lows ≠ [] → c3 = .d (num (greatest lows)))) (ds_if (dt_is (dt_list (de_var 0 rfl)) (isEmpty_limD lows)) (fun h => ?_) (fun h => dss_nil ⟨.no, ?_, ?_⟩)) ?_
  · have h0 := ne_of_isEmpty h
    have sg : Sm 4300 (greatest lows) := o1 _ (greatest_mem h0)
    refine dss_seq (ds_set 3 nd (d := num (greatest lows)) (de_call (fn_greatest T) (hr.mono (by decide)) (da_cons (d := numL lows) (de_is (de_dl (dl_dc rfl nd (dc_map [("limit", 6), ("strict", 7)] lows limD num (fun q => [.d (limsD lows), .d (limsD highs), .m [num 0], .no, .no, .no, .d (num q), .d (.bool false)]) (di_list (de_var 0 rfl)) o3 rfl (fun u hu s H C cl fp => ⟨_, (by decide), dg_tup rfl (dgs_cons (dg_name 6 nd) (dgs_cons (dg_name 7 nd) dgs_nil)), fun B1 e1 => de_var 6 rfl⟩)))) rfl) da_nil) ⟨_, rfl, h0, o1.mono (by decide), rfl⟩) rfl) ?_
    refine dss_one (ds_ext 2 nd rfl (de_dl (dl_lst (da_cons (de_var 3 rfl) (da_cons (de_call (fn_plus T) (hr.mono (by decide)) (da_cons (de_var 3 rfl) (da_cons (de_one_ T) da_nil)) ⟨_, _, rfl, sg.mono (by decide), Sm.one (by decide), trivial, rfl⟩) da_nil)))) (Evl.sz_of (by simp)) ⟨.d (num (greatest lows)), ?_, fun _ => rfl⟩)
    have e : lows.isEmpty = false := by simpa using h
    simp only [st, tried1, e]
    rfl
  · have e : lows.isEmpty = true := by simpa using h
    simp only [st, tried1, e]
    rfl
  · intro h0
    have e : lows.isEmpty = true := by simpa using h
    exact absurd (List.isEmpty_iff.mp e) h0
  rintro ss' ⟨c3, rfl, hc3⟩
  refine dss_cons (mid := fun s => ∃ c4, s = st (tried2 lows highs) c3 c4 ∧ (highs ≠ [] → c4 = .d (num (least highs)))) (ds_if (dt_is (dt_list (de_var 1 rfl)) (isEmpty_limD highs)) (fun h => ?_) (fun h => dss_nil ⟨.no, ?_, ?_⟩)) ?_
  · have h0 := ne_of_isEmpty h
    have sg : Sm 4300 (least highs) := o2 _ (least_neg_mem h0)
    refine dss_seq (ds_set 4 nd (d := num (least highs)) (de_call (fn_least T) hr (da_cons (d := numL highs) (de_is (de_dl (dl_dc rfl nd (dc_map [("limit", 6), ("strict", 7)] highs limD num (fun q => [.d (limsD lows), .d (limsD highs), .m _, c3, .no, .no, .d (num q), .d (.bool false)]) (di_list (de_var 1 rfl)) o4 rfl (fun u hu s H C cl fp => ⟨_, (by decide), dg_tup rfl (dgs_cons (dg_name 6 nd) (dgs_cons (dg_name 7 nd) dgs_nil)), fun B1 e1 => de_var 6 rfl⟩)))) rfl) da_nil) ⟨_, rfl, h0, o2.mono (by decide), o4, rfl⟩) rfl) ?_
    refine dss_one (ds_ext 2 nd rfl (de_dl (dl_lst (da_cons (de_var 4 rfl) (da_cons (de_call (fn_minus T) (hr.mono (by decide)) (da_cons (de_var 4 rfl) (da_cons (de_one_ T) da_nil)) ⟨_, _, rfl, sg.mono (by decide), Sm.one (by decide), trivial, rfl⟩) da_nil)))) (Evl.sz_of ?_) ⟨.d (num (least highs)), ?_, fun _ => rfl⟩)
    · have : (tried1 lows).length ≤ 3 := by unfold tried1; split <;> simp
      simp; omega
    · have e : highs.isEmpty = false := by simpa using h
      simp only [st, tried2, e, List.map_append]
      rfl
  · have e : highs.isEmpty = true := by simpa using h
    simp only [st, tried2, e, if_true, List.append_nil]
  · intro h0
    have e : highs.isEmpty = true := by simpa using h
    exact absurd (List.isEmpty_iff.mp e) h0
  rintro ss' ⟨c4, rfl, hc4⟩
  refine dss_cons (mid := fun s => s = st (tried lows highs) c3 c4) (ds_if (dt_w (dw_and (dt_is (dt_list (de_var 0 rfl)) (isEmpty_limD lows)) fun _ => dw_and1 (dt_is (dt_list (de_var 1 rfl)) (isEmpty_limD highs)))) (fun h => ?_) (fun h => dss_nil ?_)) ?_
  · rw [Bool.and_eq_true] at h
    have h1 := ne_of_isEmpty h.1
    have h2 := ne_of_isEmpty h.2
    have e1 := hc3 h1
    have e2 := hc4 h2
    subst e1 e2
    have s2 : Sm 4400 (2 : Rat) := Sm.mono (j := 2) ⟨by decide, by decide⟩ (by decide)
    refine dss_one (ds_app 2 rfl (de_call (fn_divided T) (hr.mono (by decide)) (da_cons (de_call (fn_plus T) (hr.mono (by decide)) (da_cons (de_var 3 rfl) (da_cons (de_var 4 rfl) da_nil)) ⟨_, _, rfl, (o1 _ (greatest_mem h1)).mono (by decide), (o2 _ (least_neg_mem h2)).mono (by decide), trivial, rfl⟩) (da_cons (d := num 2) (de_tup (da_cons de_int (da_cons de_int da_nil))) da_nil)) ⟨_, _, rfl, (o5 h1 h2).mono (by decide), s2, (show (2 : Rat) ≠ 0 by decide), rfl⟩) ?_ ?_)
    · have l1 : (tried1 lows).length ≤ 3 := by unfold tried1; split <;> simp
      have l2 : (tried2 lows highs).length ≤ 5 := by unfold tried2; rw [List.length_append]; split <;> simp <;> omega
      rw [List.length_map]; omega
    · have e3 : lows.isEmpty = false := by simpa using h.1
      have e4 : highs.isEmpty = false := by simpa using h.2
      show _ = st _ _ _
      rw [tried_eq]
      simp only [st, e3, e4, List.map_append]
      rfl
  · show _ = st _ _ _
    rw [tried_eq]
    have e : (lows.isEmpty || highs.isEmpty) = true := by
      cases h1 : lows.isEmpty
      · cases h2 : highs.isEmpty
        · rw [h1, h2] at h; cases h
        · rfl
      · rfl
    simp only [e, if_true, List.append_nil]
  rintro ss' rfl
  refine dss_frz (i := 2) rfl ?_
  refine dss_cons (mid := fun s => ∀ v ∈ tried lows highs, between v lows highs = false) (ds_for PassesOwn.never rfl (di_list (de_var 2 rfl)) (fun i s => (∃ c5, s = [.d (limsD lows), .d (limsD highs), .d (numL (tried lows highs)), c3, c4, c5, .no, .no]) ∧ ∀ v ∈ (tried lows highs).take i, between v lows highs = false) ⟨⟨.no, rfl⟩, fun v hv => by simp at hv⟩ ?_ ?_) ?_
  · rintro i d ss' hd ⟨⟨c5, rfl⟩, hno⟩
    obtain ⟨v, hv, rfl, hi, hm, ht⟩ := map_get hd
    refine ⟨_, _, dg_name 5 nd, fun B1 e1 => dss_one (ds_if (dt_val (de_call (fn_lies_between T) (hr.mono (by decide)) (da_cons (de_var 5 rfl) (da_cons (de_var 0 rfl) (da_cons (de_var 1 rfl) da_nil))) ⟨_, _, _, rfl, hts v hm, o1.mono (by decide), o2.mono (by decide), rfl⟩)) (fun h => dss_one (ds_ret (de_var 5 rfl) ?_)) (fun h => dss_nil ⟨⟨_, rfl⟩, ?_⟩))⟩
    · show num v = num (chosen lows highs)
      unfold chosen
      have : (tried lows highs).find? (fun v => between v lows highs) = some v := by
        rw [List.find?_eq_some_iff_getElem]
        refine ⟨h, i, hi, ?_, fun j hj => ?_⟩
        · exact (List.getElem?_eq_some_iff.mp hv).2
        · have hjl : j < (tried lows highs).length := Nat.lt_trans hj hi
          have := hno (tried lows highs)[j] (by
            rw [List.mem_take_iff_getElem]
            exact ⟨j, by omega, rfl⟩)
          simp [this]
      rw [this]; rfl
    · intro z hz
      rw [ht] at hz
      rcases List.mem_append.mp hz with hz | hz
      · exact hno z hz
      · have e : z = v := by simpa using hz
        rw [e]; exact h
  · rintro ss' ⟨_, hno⟩
    rw [List.length_map, List.take_length] at hno
    exact hno
  · intro ss' hno
    refine dss_one (ds_ret (de_nought T) ?_)
    show num 0 = num (chosen lows highs)
    unfold chosen
    have : (tried lows highs).find? (fun v => between v lows highs) = none := by
      rw [List.find?_eq_none]
      intro v hv
      simp [hno v hv]
    rw [this]; rfl
def R_filled (ds : List PyData) (x : PyData) : Prop := ∃ n solved stages, ds = [.int (n : Nat), .list (solved.map pairD), stagesD stages] ∧ n < 1000 ∧ FillOk n solved stages ∧ (∀ s ∈ stages, s.2.1.length < 100000 ∧ s.2.2.length < 100000) ∧ x = numL (filledIn n solved stages)
theorem sc_filled_in : FnScope ["count", "solved", "stages", "numbers", "place", "above", "below", "equation"] ["count", "solved", "stages"] (defScope st_filled_in) := ⟨rfl, rfl, rfl, by decide +kernel, rfl, by decide +kernel, by decide +kernel⟩
theorem fillOk1_at : ∀ (ss : List (Nat × List Line × List Line)) (x : List Rat) (i : Nat) (s : Nat × List Line × List Line), fillOk1 x ss → ss[i]? = some s →
    let y := (ss.take i).foldl fillStage x
    s.1 < y.length ∧ (∀ l ∈ s.2.1, LimOk s.1 l y) ∧ (∀ l ∈ s.2.2, LimOk s.1 l y) ∧ ChosenOk (limits s.1 s.2.2 y) (limits s.1 s.2.1 y)
  | [], _, _, _, _, h => by simp at h
  | t :: r, x, 0, s, ok, h => by
    have e : t = s := by simpa using h
    subst e
    exact ⟨ok.1, ok.2.1, ok.2.2.1, ok.2.2.2.1⟩
  | t :: r, x, i + 1, s, ok, h => fillOk1_at r (fillStage x t) i s ok.2.2.2.2 (by simpa using h)
theorem fillOk2_at : ∀ (ss : List (Nat × Line)) (x : List Rat) (i : Nat) (s : Nat × Line), fillOk2 x ss → ss[i]? = some s →
    let y := (ss.take i).foldl fillEq x
    s.1 < y.length ∧ LimOk s.1 s.2 (y.set s.1 0)
  | [], _, _, _, _, h => by simp at h
  | t :: r, x, 0, s, ok, h => by
    have e : t = s := by simpa using h
    subst e
    exact ⟨ok.1, ok.2.1⟩
  | t :: r, x, i + 1, s, ok, h => fillOk2_at r (fillEq x t) i s ok.2.2 (by simpa using h)
theorem fn_filled_in (T : Top K mg) : FnIs P w K mg base "filled_in" ["count", "solved", "stages"] 6 R_filled := by
  refine mkD (d := dd_filled_in) T 25 rfl rfl rfl sc_filled_in (fun _ _ _ _ _ _ us hl => match us, hl with | [_, _, _], _ => rfl) (fun f cdv A outer s H E hr ds x hR _ => ?_)
  obtain ⟨n, solved, stages, rfl, hn, ⟨ok1, ok2⟩, hlen, rfl⟩ := hR
  have nd := sc_filled_in.nd
  let st : List Rat → SD → SD → SD → SD → List SD := fun y c4 c5 c6 c7 => [.d (.int (n : Nat)), .d (.list (solved.map pairD)), .d (stagesD stages), .m (y.map num), c4, c5, c6, c7]
  have e0 : (List.range n).map (fun _ => num 0) = (List.replicate n (0 : Rat)).map num := by
    rw [List.map_replicate, List.map_const', List.length_range]
  refine dss_seq (ds_setC 3 rfl nd (dc_map [("place", 4)] (List.range n) (fun i => .int (i : Nat)) (fun _ => num 0) (fun i => [.d (.int (n : Nat)), .d (.list (solved.map pairD)), .d (stagesD stages), .no, .d (.int (i : Nat)), .no, .no, .no])
    (by rw [← rgD_map]; exact di_rng (T.free _ (by decide)) (de_var 0 rfl) rfl (by omega)) (by rw [List.length_range]; omega) rfl (fun u hu s H C cl fp => ⟨_, (by decide), dg_name 4 nd, fun B1 e1 => de_nought (X := Blk _ _ _ _ _ _ _) T⟩)) rfl rfl) ?_
  let x1 := stages.reverse.foldl fillStage (List.replicate n 0)
  refine dss_cons (mid := fun s => ∃ c4 c5 c6 c7, s = st x1 c4 c5 c6 c7) (ds_for PassesOwn.never rfl (di_list (de_dl (dl_rev (de_var 2 rfl)))) (fun i s => ∃ c4 c5 c6 c7, s = st ((stages.reverse.take i).foldl fillStage (List.replicate n 0)) c4 c5 c6 c7) ⟨.no, .no, .no, .no, by rw [e0]; rfl⟩ ?_ ?_) ?_
  · rintro i d ss' hd ⟨c4, c5, c6, c7, rfl⟩
    rw [← List.map_reverse] at hd
    obtain ⟨s, hs, rfl, hi, hm, ht⟩ := map_get hd
    obtain ⟨k1, k2, k3, k4⟩ := fillOk1_at _ _ _ _ ok1 hs
    have hl := hlen s (List.mem_reverse.mp hm)
    refine ⟨_, _, dg_tup rfl (dgs_cons (dg_name 4 nd) (dgs_cons (dg_name 5 nd) (dgs_cons (dg_name 6 nd) dgs_nil))), fun B1 e1 => dss_one (ds_put (n := s.1) 3 rfl (d := num (chosen (limits s.1 s.2.2 ((stages.reverse.take i).foldl fillStage (List.replicate n 0))) (limits s.1 s.2.1 ((stages.reverse.take i).foldl fillStage (List.replicate n 0)))))
      (de_frz (i := 3) rfl rfl (de_call (fn_chosen T) (hr.mono (by decide)) (da_cons (de_call (fn_limits T) hr (da_cons (de_var 4 rfl) (da_cons (de_var 6 rfl) (da_cons (de_var 3 rfl) da_nil))) ⟨_, _, _, rfl, k3, hl.2, rfl⟩) (da_cons (de_call (fn_limits T) hr (da_cons (de_var 4 rfl) (da_cons (de_var 5 rfl) (da_cons (de_var 3 rfl) da_nil))) ⟨_, _, _, rfl, k2, hl.1, rfl⟩) da_nil)) ⟨_, _, rfl, k4, rfl⟩))
      (de_var 4 rfl) rfl (by rw [List.length_map]; exact k1) ?_)⟩
    refine ⟨.d (.int (s.1 : Nat)), .d (linesD s.2.1), .d (linesD s.2.2), c7, ?_⟩
    rw [ht, List.foldl_append]
    simp only [st, List.foldl_cons, List.foldl_nil]
    unfold fillStage
    rw [List.map_set]
    rfl
  · rintro ss' ⟨c4, c5, c6, c7, rfl⟩
    refine ⟨c4, c5, c6, c7, ?_⟩
    have e : (stages.map stageD).reverse.length = stages.reverse.length := by simp
    show st _ _ _ _ _ = st _ _ _ _ _
    rw [e, List.take_length]
  rintro ss' ⟨c4, c5, c6, c7, rfl⟩
  refine dss_cons (mid := fun s => ∃ c4 c5 c6 c7, s = st (filledIn n solved stages) c4 c5 c6 c7) (ds_for PassesOwn.never rfl (di_list (de_dl (dl_rev (de_var 1 rfl)))) (fun i s => ∃ c4 c5 c6 c7, s = st ((solved.reverse.take i).foldl fillEq x1) c4 c5 c6 c7) ⟨c4, c5, c6, c7, rfl⟩ ?_ ?_) ?_
  · rintro i d ss' hd ⟨c4, c5, c6, c7, rfl⟩
    rw [← List.map_reverse] at hd
    obtain ⟨s, hs, rfl, hi, hm, ht⟩ := map_get hd
    obtain ⟨k1, k2⟩ := fillOk2_at _ _ _ _ ok2 hs
    obtain ⟨g1, g2, g3, g4, g5, g6, g7⟩ := k2
    have sd : Sm 4400 (dotQ s.2.f (((solved.reverse.take i).foldl fillEq x1).set s.1 0)) := by
      have := g3.2 _ (Nat.le_refl _)
      rwa [List.take_length] at this
    have sp : Sm 4400 (getQ s.2.f s.1) := (g1.1 _ (getQ_mem g6)).mono (by decide)
    refine ⟨_, _, dg_tup rfl (dgs_cons (dg_name 4 nd) (dgs_cons (dg_name 7 nd) dgs_nil)), fun B1 e1 => ?_⟩
    refine dss_seq (ds_put (n := s.1) 3 rfl (de_nought T) (de_var 4 rfl) rfl (by rw [List.length_map]; exact k1) rfl) ?_
    have e2 : (((solved.reverse.take i).foldl fillEq x1).map num).set s.1 (num 0) = (((solved.reverse.take i).foldl fillEq x1).set s.1 0).map num := by rw [List.map_set]
    refine dss_one (ds_put (n := s.1) 3 (congrArg (fun z => some (SD.m z)) e2) (d := num ((s.2.b - dotQ s.2.f (((solved.reverse.take i).foldl fillEq x1).set s.1 0)) / getQ s.2.f s.1))
      (de_call (fn_divided T) (hr.mono (by decide)) (da_cons (de_call (fn_minus T) (hr.mono (by decide)) (da_cons (de_lb (de_var 7 rfl)) (da_cons (de_frz (i := 3) (congrArg (fun z => some (SD.m z)) e2) rfl (de_call (fn_dot T) (hr.mono (by decide)) (da_cons (de_lf (de_var 7 rfl)) (da_cons (de_var 3 rfl) da_nil)) ⟨_, _, rfl, g1.1.mono (by decide), g2, g7, g3, rfl⟩)) da_nil)) ⟨_, _, rfl, g1.2.1.mono (by decide), sd, trivial, rfl⟩)
        (da_cons (de_at (de_lf (de_var 7 rfl)) (de_var 4 rfl) g6) da_nil)) ⟨_, _, rfl, g4, sp, g5, rfl⟩) (de_var 4 rfl) rfl (by rw [List.length_map, List.length_set]; exact k1) ?_)
    refine ⟨.d (.int (s.1 : Nat)), c5, c6, .d (lineD s.2), ?_⟩
    rw [ht, List.foldl_append]
    simp only [st, List.foldl_cons, List.foldl_nil]
    unfold fillEq
    rw [List.map_set (l := (List.set _ _ _))]
    rfl
  · rintro ss' ⟨c4, c5, c6, c7, rfl⟩
    refine ⟨c4, c5, c6, c7, ?_⟩
    have e : (solved.map pairD).reverse.length = solved.reverse.length := by simp
    show st _ _ _ _ _ = st _ _ _ _ _
    rw [e, List.take_length]
    rfl
  · rintro ss' ⟨c4, c5, c6, c7, rfl⟩
    exact dss_frz (i := 3) rfl (dss_one (ds_ret (de_var 3 rfl) rfl))
end
end Hk
end
section
set_option Elab.async false
set_option linter.all false
set_option maxRecDepth 100000
set_option maxHeartbeats 4000000
namespace Hk
open PySem PySem.Spec PyProof.Rows L2
open Evl (Ex)
open Hq
def R_begun (ds : List PyData) (x : PyData) : Prop := ∃ rows, ds = [rowsD rows] ∧ rows.length < 1000 ∧ (∀ r ∈ rows, r.f.length < 1000) ∧ x = .tuple [linesD (eqsOf rows), linesD (othersOf rows)]
/-- what solve_system asks and gives, where it finds a solution -/
structure SolveOk (n : Nat) (rows : List RowQ) : Prop where
  hn : n < 1000
  rl : rows.length < 1000
  rf : ∀ r ∈ rows, r.f.length = n
  gok : gaussOk n (eqsOf rows) (othersOf rows)
  left : ∀ l ∈ (gauss n (eqsOf rows) (othersOf rows)).2.1, l.b = 0
  eok : ElimOk (looseOf rows) (gauss n (eqsOf rows) (othersOf rows)).2.2 n
  fin : ∀ l ∈ (elim (looseOf rows) (gauss n (eqsOf rows) (othersOf rows)).2.2 n).2.1, 0 ≤ l.b ∧ Sm 4400 l.b
  fil : FillOk n (gauss n (eqsOf rows) (othersOf rows)).1 (elim (looseOf rows) (gauss n (eqsOf rows) (othersOf rows)).2.2 n).1
def solOf (n : Nat) (rows : List RowQ) : List Rat := filledIn n (gauss n (eqsOf rows) (othersOf rows)).1 (elim (looseOf rows) (gauss n (eqsOf rows) (othersOf rows)).2.2 n).1
def R_solve (ds : List PyData) (x : PyData) : Prop := ∃ n rows, ds = [.int (n : Nat), rowsD rows] ∧ SolveOk n rows ∧ x = .tuple [.str "solution", numL (solOf n rows)]
theorem begunL_len (rows : List RowQ) : (begunL rows).length = rows.length := by simp [begunL]
theorem begunL_take {rows : List RowQ} {i : Nat} (hi : i < rows.length) : (begunL rows).take (i + 1) = (begunL rows).take i ++ [(⟨rows[i].f, rows[i].b, unitM rows.length i⟩, rows[i].eq)] := by
  have hi' : i < (begunL rows).length := by rw [begunL_len]; exact hi
  rw [← List.take_append_getElem hi']
  congr 1
  simp [begunL]
theorem unit_len (n i : Nat) : (unitM n i).length = n := by simp [unitM]
theorem begun_mem {rows : List RowQ} {p : Line × Bool} (h : p ∈ begunL rows) : ∃ i, ∃ hi : i < rows.length, p = (⟨rows[i].f, rows[i].b, unitM rows.length i⟩, rows[i].eq) := by
  obtain ⟨i, hi⟩ := List.getElem?_of_mem h
  have hlt := (List.getElem?_eq_some_iff.mp hi).1
  rw [begunL_len] at hlt
  refine ⟨i, hlt, ?_⟩
  have := (List.getElem?_eq_some_iff.mp hi).2
  rw [← this]
  simp [begunL]
theorem shp_eqs {n : Nat} {rows : List RowQ} (h : ∀ r ∈ rows, r.f.length = n) : ∀ l ∈ eqsOf rows, Shp n rows.length l := fun l hl => by
  obtain ⟨p, hp, rfl⟩ := List.mem_map.mp hl
  obtain ⟨i, hi, rfl⟩ := begun_mem (List.mem_filter.mp hp).1
  exact ⟨h _ (List.getElem_mem hi), unit_len _ _⟩
theorem shp_others {n : Nat} {rows : List RowQ} (h : ∀ r ∈ rows, r.f.length = n) : ∀ l ∈ othersOf rows, Shp n rows.length l := fun l hl => by
  obtain ⟨p, hp, rfl⟩ := List.mem_map.mp hl
  obtain ⟨i, hi, rfl⟩ := begun_mem (List.mem_filter.mp hp).1
  exact ⟨h _ (List.getElem_mem hi), unit_len _ _⟩
theorem gauss_len (n : Nat) : ∀ (k : Nat) (es os : List Line), es.length = k → (gauss n es os).1.length + (gauss n es os).2.1.length = k ∧ (gauss n es os).2.2.length = os.length := by
  intro k
  induction k with
  | zero =>
    intro es os h
    have := List.length_eq_zero_iff.mp h
    subst this
    rw [gauss_nil]
    exact ⟨rfl, rfl⟩
  | succ k ih =>
    intro es os h
    cases es with
    | nil => cases h
    | cons e rest =>
      have hr : rest.length = k := by simpa using h
      cases hp : firstPlace n e with
      | none =>
        rw [gauss_none hp]
        obtain ⟨h1, h2⟩ := ih rest os hr
        exact ⟨by simp; omega, h2⟩
      | some p =>
        rw [gauss_some hp]
        obtain ⟨h1, h2⟩ := ih (rest.map (withoutL p e)) (os.map (withoutL p e)) (by simpa using hr)
        exact ⟨by simp at h1 ⊢; omega, by rw [h2, List.length_map]⟩
theorem shp_gauss {n kk : Nat} : ∀ (k : Nat) (es os : List Line), es.length = k → (∀ l ∈ es, Shp n kk l) → (∀ l ∈ os, Shp n kk l) → (∀ l ∈ (gauss n es os).2.2, Shp n kk l) ∧ (∀ p ∈ (gauss n es os).1, Shp n kk p.2 ∧ p.1 < n ∧ getQ p.2.f p.1 ≠ 0) ∧ ∀ l ∈ (gauss n es os).2.1, Shp n kk l := by
  intro k
  induction k with
  | zero =>
    intro es os h h1 h2
    have := List.length_eq_zero_iff.mp h
    subst this
    rw [gauss_nil]
    exact ⟨h2, fun p hp => by simp at hp, fun p hp => by simp at hp⟩
  | succ k ih =>
    intro es os h h1 h2
    cases es with
    | nil => cases h
    | cons e rest =>
      have hr : rest.length = k := by simpa using h
      have he := h1 e List.mem_cons_self
      have hrs : ∀ l ∈ rest, Shp n kk l := fun l hl => h1 l (List.mem_cons_of_mem _ hl)
      cases hp : firstPlace n e with
      | none =>
        rw [gauss_none hp]
        obtain ⟨a, b, c⟩ := ih rest os hr hrs h2
        refine ⟨a, b, fun l hl => ?_⟩
        rcases List.mem_cons.mp hl with q | q
        · rw [q]; exact he
        · exact c l q
      | some p =>
        rw [gauss_some hp]
        obtain ⟨a, b, c⟩ := ih (rest.map (withoutL p e)) (os.map (withoutL p e)) (by simpa using hr) (fun l hl => by
          obtain ⟨l', h', rfl⟩ := List.mem_map.mp hl
          exact shp_without he (hrs l' h')) (fun l hl => by
          obtain ⟨l', h', rfl⟩ := List.mem_map.mp hl
          exact shp_without he (h2 l' h'))
        refine ⟨a, fun q hq => ?_, c⟩
        rcases List.mem_cons.mp hq with z | z
        · rw [z]; exact ⟨he, firstPlace_spec hp⟩
        · exact b q z
theorem elim_stage {loose : List Nat} {ls : List Line} : ∀ (n : Nat) (s : Nat × List Line × List Line), s ∈ (elim loose ls n).1 → ∃ i, i < n ∧ s = (i, above i (elim loose ls i).2.1, below i (elim loose ls i).2.1)
  | 0, s, h => by simp [elim] at h
  | n + 1, s, h => by
    have h' : s ∈ (elim loose ls n).1 ++ [(n, above n (elim loose ls n).2.1, below n (elim loose ls n).2.1)] := h
    rcases List.mem_append.mp h' with q | q
    · obtain ⟨i, hi, e⟩ := elim_stage n s q
      exact ⟨i, by omega, e⟩
    · exact ⟨n, by omega, by simpa using q⟩
section
variable {P : Program} {w : World} {K : PySem.W.Frag} {mg : Str → Option Value} {base : Heap}
theorem sc_begun : FnScope ["rows", "equations", "others", "place", "factors", "sign", "bound", "multipliers", "line", "k"] ["rows"] (defScope st_begun) := ⟨rfl, rfl, rfl, by decide +kernel, rfl, by decide +kernel, by decide +kernel⟩
theorem fn_begun (T : Top K mg) : FnIs P w K mg base "begun" ["rows"] 1 R_begun := by
  refine mkD (d := dd_begun) T 13 rfl rfl rfl sc_begun (fun _ _ _ _ _ _ us hl => match us, hl with | [_], _ => rfl) (fun f cdv A outer s H E hr ds x hR _ => ?_)
  obtain ⟨rows, rfl, hrl, hrf, rfl⟩ := hR
  have nd := sc_begun.nd
  refine dss_seq (ds_parL 1 2 rfl nd rfl rfl) ?_
  let eqN : Nat → List PyData := fun i => ((((begunL rows).take i).filter (·.2)).map (·.1)).map lineD
  let otN : Nat → List PyData := fun i => ((((begunL rows).take i).filter (!·.2)).map (·.1)).map lineD
  let I : Nat → List SD → Prop := fun i s => ∃ c3 c4 c5 c6 c7 c8 c9, s = [.d (rowsD rows), .m (eqN i), .m (otN i), c3, c4, c5, c6, c7, c8, c9]
  refine dss_cons (mid := I rows.length) (ds_for PassesOwn.never rfl (di_enum (T.free _ (by decide)) (de_var 0 rfl)) I ⟨.no, .no, .no, .no, .no, .no, .no, rfl⟩ ?_ ?_) ?_
  · rintro i d ss' hd ⟨c3, c4, c5, c6, c7, c8, c9, rfl⟩
    obtain ⟨z, hz, rfl⟩ := enD_get hd
    obtain ⟨r, hr', rfl, hi, hm, ht⟩ := map_get hz
    have er : rows[i] = r := (List.getElem?_eq_some_iff.mp hr').2
    have etk := begunL_take hi
    rw [er] at etk
    refine ⟨_, _, dg_tup rfl (dgs_cons (dg_name 3 nd) (dgs_cons (dg_tup rfl (dgs_cons (dg_name 4 nd) (dgs_cons (dg_name 5 nd) (dgs_cons (dg_name 6 nd) dgs_nil)))) dgs_nil)), fun B1 e1 => ?_⟩
    refine dss_seq (ds_setC 7 rfl nd (dc_map [("k", 9)] (List.range rows.length) (fun k => .int (k : Nat)) (fun k => num (if k = i then 1 else 0)) (fun k => [.d (rowsD rows), .m (eqN i), .m (otN i), .d (.int (i : Nat)), .d (numL r.f), .d (.str (signS r.eq)), .d (num r.b), c7, c8, .d (.int (k : Nat))])
      (by rw [← rgD_map]; exact di_rng (T.free _ (by decide)) (de_lenL (T.free _ (by decide)) (de_var 0 rfl)) (by rw [List.length_map]) (by omega)) (by rw [List.length_range]; omega) rfl (fun k hk s H C cl fp => ⟨_, (by decide), dg_name 9 nd, fun B2 e2 => ?_⟩)) rfl rfl) (dss_frz (i := 7) rfl ?_)
    · have hk2 : decide ((k : Int) = (i : Int)) = decide (k = i) := by
        by_cases q : k = i
        · subst q; simp
        · have : ¬ (k : Int) = (i : Int) := by omega
          simp [q, this]
      refine de_if (dt_is (dt_cmp cmp_eqI (de_var 9 rfl) (de_var 3 rfl)) hk2) (fun h => ?_) (fun h => ?_)
      · rw [if_pos (of_decide_eq_true h)]; exact de_one_ (X := Blk _ _ _ _ _ _ _) T
      · rw [if_neg (of_decide_eq_false h)]; exact de_nought (X := Blk _ _ _ _ _ _ _) T
    have em : (List.range rows.length).map (fun k => num (if k = i then 1 else 0)) = (unitM rows.length i).map num := by
      unfold unitM
      rw [List.map_map]
      rfl
    refine dss_seq (ds_set 8 nd (d := lineD ⟨r.f, r.b, unitM rows.length i⟩) (de_is (de_tup (da_cons (de_dl (dl_listOf (T.free _ (by decide)) (de_var 4 rfl))) (da_cons (de_cmp cmp_eqS (de_var 5 rfl) de_str) (da_cons (de_var 6 rfl) (da_cons (de_var 7 rfl) da_nil))))) (by
      show PyData.tuple [.list (r.f.map num), .bool (decide (signS r.eq = ("<" : Str))), num r.b, .list _] = _
      rw [sign_lt, em]; rfl)) rfl) ?_
    have l1 : (eqN i).length ≤ i := by
      simp only [eqN, List.length_map]
      exact Nat.le_trans (List.length_filter_le _ _) (by rw [List.length_take]; omega)
    have l2 : (otN i).length ≤ i := by
      simp only [otN, List.length_map]
      exact Nat.le_trans (List.length_filter_le _ _) (by rw [List.length_take]; omega)
    refine dss_one (ds_if (dt_is (dt_cmp cmp_eqS (de_var 5 rfl) de_str) (sign_eq r.eq)) (fun h => dss_one (ds_app 1 rfl (de_var 8 rfl) (by omega) ?_)) (fun h => dss_one (ds_app 2 rfl (de_var 8 rfl) (by omega) ?_)))
    · refine ⟨.d (.int (i : Nat)), .d (numL r.f), .d (.str (signS r.eq)), .d (num r.b), .d (.list ((List.range rows.length).map (fun k => num (if k = i then 1 else 0)))), .d (lineD ⟨r.f, r.b, unitM rows.length i⟩), c9, ?_⟩
      have e1 : eqN (i + 1) = eqN i ++ [lineD ⟨r.f, r.b, unitM rows.length i⟩] := by
        simp [eqN, etk, List.filter_cons, h]
      have e2 : otN (i + 1) = otN i := by
        simp [otN, etk, List.filter_cons, h]
      rw [e1, e2]
      rfl
    · refine ⟨.d (.int (i : Nat)), .d (numL r.f), .d (.str (signS r.eq)), .d (num r.b), .d (.list ((List.range rows.length).map (fun k => num (if k = i then 1 else 0)))), .d (lineD ⟨r.f, r.b, unitM rows.length i⟩), c9, ?_⟩
      have e1 : otN (i + 1) = otN i ++ [lineD ⟨r.f, r.b, unitM rows.length i⟩] := by
        simp [otN, etk, List.filter_cons, h]
      have e2 : eqN (i + 1) = eqN i := by
        simp [eqN, etk, List.filter_cons, h]
      rw [e1, e2]
      rfl
  · intro ss' h
    rw [enD_len, List.length_map] at h
    exact h
  · rintro ss' ⟨c3, c4, c5, c6, c7, c8, c9, rfl⟩
    have t1 : (begunL rows).take rows.length = begunL rows := by rw [← begunL_len rows, List.take_length]
    refine dss_frz (i := 1) rfl (dss_frz (i := 2) rfl (dss_one (ds_ret (de_tup (da_cons (de_var 1 rfl) (da_cons (de_var 2 rfl) da_nil))) ?_)))
    show PyData.tuple [.list (eqN rows.length), .list (otN rows.length)] = _
    simp only [eqN, otN, t1]
    rfl
theorem sc_solve_system : FnScope ["count", "rows", "equations", "others", "solved", "left", "line", "stages", "lines", "way"] ["count", "rows"] (defScope st_solve_system) := ⟨rfl, rfl, rfl, by decide +kernel, rfl, by decide +kernel, by decide +kernel⟩
theorem fn_solve_system (T : Top K mg) : FnIs P w K mg base "solve_system" ["count", "rows"] 7 R_solve := by
  refine mkD (d := dd_solve_system) T 26 rfl rfl rfl sc_solve_system (fun _ _ _ _ _ _ us hl => match us, hl with | [_, _], _ => rfl) (fun f cdv A outer s H E hr ds x hR _ => ?_)
  obtain ⟨n, rows, rfl, ok, rfl⟩ := hR
  have nd := sc_solve_system.nd
  have hl : (eqsOf rows).length ≤ rows.length ∧ (othersOf rows).length ≤ rows.length := by
    have h1 := List.length_filter_le (·.2) (begunL rows)
    have h2 := List.length_filter_le (!·.2) (begunL rows)
    rw [begunL_len] at h1 h2
    exact ⟨by unfold eqsOf; rw [List.length_map]; exact h1, by unfold othersOf; rw [List.length_map]; exact h2⟩
  have hrl := ok.rl
  refine dss_seq (ds_asg (de_call (fn_begun T) (hr.mono (by decide)) (da_cons (de_var 1 rfl) da_nil) ⟨rows, rfl, ok.rl, fun r hr => by rw [ok.rf r hr]; exact ok.hn, rfl⟩) (dg_tup rfl (dgs_cons (dg_name 2 nd) (dgs_cons (dg_name 3 nd) dgs_nil))) rfl) ?_
  refine dss_seq (ds_asg (de_call (fn_without_equations T) (hr.mono (by decide)) (da_cons (de_var 0 rfl) (da_cons (de_var 2 rfl) (da_cons (de_var 3 rfl) da_nil))) ⟨n, rows.length, _, _, rfl, ok.gok, shp_eqs ok.rf, shp_others ok.rf, ok.hn, ok.rl, by omega, by omega, rfl⟩) (dg_tup rfl (dgs_cons (dg_name 4 nd) (dgs_cons (dg_name 5 nd) (dgs_cons (dg_name 3 nd) dgs_nil)))) rfl) ?_
  let r := gauss n (eqsOf rows) (othersOf rows)
  let el := elim (looseOf rows) r.2.2 n
  have hshO := (shp_gauss (n := n) (kk := rows.length) _ _ _ rfl (shp_eqs ok.rf) (shp_others ok.rf)).1
  refine dss_cons (mid := fun s => ∃ c6, s = [.d (.int (n : Nat)), .d (rowsD rows), .d (linesD (eqsOf rows)), .d (linesD r.2.2), .d (.list (r.1.map pairD)), .d (linesD r.2.1), c6, .no, .no, .no]) (ds_for PassesOwn.never rfl (di_list (de_var 5 rfl)) (fun i s => ∃ c6, s = [.d (.int (n : Nat)), .d (rowsD rows), .d (linesD (eqsOf rows)), .d (linesD r.2.2), .d (.list (r.1.map pairD)), .d (linesD r.2.1), c6, .no, .no, .no]) ⟨.no, rfl⟩ ?_ (fun _ h => h)) ?_
  · rintro i d ss' hd ⟨c6, rfl⟩
    obtain ⟨l, hl', rfl, hi, hm, ht⟩ := map_get hd
    refine ⟨_, _, dg_name 6 nd, fun B1 e1 => dss_one (ds_if (t := false) (dt_is (dt_cmp (cmp_neN hr.units) (de_lb (de_var 6 rfl)) (de_nought T)) (by rw [ok.left l hm]; rfl)) (fun q => nomatch q) (fun _ => dss_nil ⟨_, rfl⟩))⟩
  rintro ss' ⟨c6, rfl⟩
  refine dss_seq (ds_asg (de_call (fn_eliminated T) (hr.mono (by decide)) (da_cons (de_var 0 rfl) (da_cons (de_var 1 rfl) (da_cons (de_var 3 rfl) da_nil))) ⟨n, rows, _, rfl, ok.hn, ok.rl, hshO, ok.eok, rfl⟩) (dg_tup rfl (dgs_cons (dg_name 7 nd) (dgs_cons (dg_name 8 nd) dgs_nil))) rfl) ?_
  refine dss_cons (mid := fun s => ∃ c6 c9, s = [.d (.int (n : Nat)), .d (rowsD rows), .d (linesD (eqsOf rows)), .d (linesD r.2.2), .d (.list (r.1.map pairD)), .d (linesD r.2.1), c6, .d (stagesD el.1), .d (linesD el.2.1), c9]) (ds_for PassesOwn.never rfl (di_list (de_var 8 rfl)) (fun i s => ∃ c6 c9, s = [.d (.int (n : Nat)), .d (rowsD rows), .d (linesD (eqsOf rows)), .d (linesD r.2.2), .d (.list (r.1.map pairD)), .d (linesD r.2.1), c6, .d (stagesD el.1), .d (linesD el.2.1), c9]) ⟨c6, .no, rfl⟩ ?_ (fun _ h => h)) ?_
  · rintro i d ss' hd ⟨c6, c9, rfl⟩
    obtain ⟨l, hl', rfl, hi, hm, ht⟩ := map_get hd
    obtain ⟨f1, f2⟩ := ok.fin l hm
    have nlt : decide (l.b < 0) = false := decide_eq_false fun q => by grind
    refine ⟨_, _, dg_name 6 nd, fun B1 e1 => dss_seq (ds_set 9 nd (de_call (fn_compare T) (hr.mono (by decide)) (da_cons (de_lb (de_var 6 rfl)) (da_cons (de_nought T) da_nil)) ⟨_, _, rfl, f2, Sm.zero (by decide), trivial, rfl⟩) rfl) ?_⟩
    refine dss_one (ds_if (t := false) (dt_is (dt_w (dw_or (dt_is (dt_cmp cmp_lt (de_var 9 rfl) de_int) ((cmp_neg l.b 0).trans nlt)) fun _ => dw_or1 (dt_w (dw_and (dt_cmp cmp_eqI (de_var 9 rfl) de_int) fun _ => dw_and1 (dt_val (de_ls (de_var 6 rfl))))))) (by simp)) (fun q => nomatch q) (fun _ => dss_nil ⟨_, _, rfl⟩))
  · rintro ss' ⟨c6, c9, rfl⟩
    have hst : ∀ s ∈ el.1, s.2.1.length < 100000 ∧ s.2.2.length < 100000 := fun s hs => by
      obtain ⟨i, hi, rfl⟩ := elim_stage n s hs
      obtain ⟨_, h2, _⟩ := ok.eok i hi
      exact ⟨Nat.lt_of_le_of_lt (List.length_filter_le _ _) h2, Nat.lt_of_le_of_lt (List.length_filter_le _ _) h2⟩
    exact dss_one (ds_ret (de_tup (da_cons de_str (da_cons (de_call (fn_filled_in T) hr (da_cons (de_var 0 rfl) (da_cons (de_var 4 rfl) (da_cons (de_var 7 rfl) da_nil))) ⟨n, _, _, rfl, ok.hn, ok.fil, hst, rfl⟩) da_nil))) rfl)
end
end Hk
end
section
set_option Elab.async false
set_option linter.all false
set_option maxRecDepth 100000
set_option maxHeartbeats 4000000
namespace Hk
open PySem PySem.Spec PyProof.Rows L2
open Evl (Ex)
open Hq
theorem bnot_t {b : Bool} (h : (!b) = true) : b = false := by
  cases b
  · rfl
  · cases h
theorem range_getQ {xs : List Rat} {n : Nat} (h : xs.length = n) : xs = (List.range n).map (getQ xs) := by
  subst h
  refine List.ext_getElem (by simp) fun i h1 h2 => ?_
  rw [List.getElem_map, List.getElem_range]
  exact (Option.some.inj ((List.getElem?_eq_getElem h1).symm.trans (getQ_at h1)))
theorem zp3D_range {xs ys zs : List Rat} {n : Nat} (h : xs.length = n) (h' : ys.length = n) (h'' : zs.length = n) : zp3D (xs.map num) (ys.map num) (zs.map num) = (List.range n).map fun i => PyData.tuple [num (getQ xs i), num (getQ ys i), num (getQ zs i)] := by
  unfold zp3D
  refine List.ext_getElem (by simp [h, h', h'']) fun i h1 h2 => ?_
  have hi : i < n := by simpa using h2
  rw [List.getElem_map, List.getElem_map, List.getElem_zip, List.getElem_zip, List.getElem_range]
  have e1 : (xs.map num)[i]'(by simp; omega) = num (getQ xs i) := by
    rw [List.getElem_map]
    exact congrArg num (Option.some.inj ((List.getElem?_eq_getElem (by omega)).symm.trans (getQ_at (by omega))))
  have e2 : (ys.map num)[i]'(by simp; omega) = num (getQ ys i) := by
    rw [List.getElem_map]
    exact congrArg num (Option.some.inj ((List.getElem?_eq_getElem (by omega)).symm.trans (getQ_at (by omega))))
  have e3 : (zs.map num)[i]'(by simp; omega) = num (getQ zs i) := by
    rw [List.getElem_map]
    exact congrArg num (Option.some.inj ((List.getElem?_eq_getElem (by omega)).symm.trans (getQ_at (by omega))))
  rw [e1, e2, e3]
theorem gains_sm {names : List PyData} {m : Market} (W : WfM names m) {k c a : Nat} (hk : k < m.nodes.length) (hc : c < m.nodes.length) (ha : a < m.many) :
    Sm 1000 (getQ (nodeAt m c).pr a) ∧ Sm 1000 (getQ (nodeAt m c).po a) ∧ Sm 1000 (nodeAt m k).g ∧ Sm 1000 (getQ (nodeAt m k).pr a) := by
  have w1 := W.at_ hk
  have w2 := W.at_ hc
  exact ⟨w2.prS.get (by decide) a, w2.poS.get (by decide) a, w1.g, w1.prS.get (by decide) a⟩
def R_gains_in (ds : List PyData) (x : PyData) : Prop := ∃ names m k c, ds = [marketD names m, .int (k : Nat), .int (c : Nat)] ∧ WfM names m ∧ k < m.nodes.length ∧ c < m.nodes.length ∧ x = numL (gainsIn m k c)
def numLL (xs : List (List Rat)) : PyData := .list (xs.map numL)
def R_gains (ds : List PyData) (x : PyData) : Prop := ∃ names m k, ds = [marketD names m, .int (k : Nat)] ∧ WfM names m ∧ k < m.nodes.length ∧ x = numLL (gains m k)
theorem kids_lt {m : Market} {k c : Nat} (h : c ∈ kids m k) : c < m.nodes.length := List.mem_range.mp (List.mem_filter.mp h).1
theorem kids_len (m : Market) (k : Nat) : (kids m k).length ≤ m.nodes.length := by
  have := List.length_filter_le (fun i => decide ((nodeAt m i).par = (k : Int))) (List.range m.nodes.length)
  rwa [List.length_range] at this
def R_is_mean (ds : List PyData) (x : PyData) : Prop := ∃ r q, ds = [ruleD r, num q] ∧ Sm 4400 q ∧ x = .bool (isMean r q)
theorem rule_any (r : Rule) : decide (ruleS r = ("any" : Str)) = decide (r = .any) := by cases r <;> decide +kernel
theorem rule_long (r : Rule) : decide (ruleS r = ("long" : Str)) = decide (r = .long) := by cases r <;> decide +kernel
theorem rule_short (r : Rule) : decide (ruleS r = ("short" : Str)) = decide (r = .short) := by cases r <;> decide +kernel
theorem rule_none (r : Rule) : decide (ruleS r = ("none" : Str)) = decide (r = .none_) := by cases r <;> decide +kernel
def DotOk (a b : List Rat) : Prop := AllSm 4400 a ∧ AllSm 4400 b ∧ a.length < 1000 ∧ SumOk (List.zipWith (· * ·) a b)
theorem DotOk.sm {a b : List Rat} (h : DotOk a b) : Sm 4400 (dotQ a b) := by
  have := h.2.2.2.2 _ (Nat.le_refl _)
  rwa [List.take_length] at this
def MeansOk (m : Market) (k : Nat) (x : List Rat) : Prop := ∀ a, a < m.many → DotOk x (col (gains m k) a)
def R_keep_means (ds : List PyData) (x : PyData) : Prop := ∃ names m k y, ds = [marketD names m, .int (k : Nat), numL y] ∧ WfM names m ∧ k < m.nodes.length ∧ MeansOk m k y ∧ x = .bool (keepMeans m k y)
def R_is_weights (ds : List PyData) (x : PyData) : Prop := ∃ names m k y, ds = [marketD names m, .int (k : Nat), numL y, .bool false] ∧ WfM names m ∧ k < m.nodes.length ∧ y.length < 1000 ∧ SumOk y ∧ MeansOk m k y ∧ x = .bool (isWeights m k y)
section
variable {P : Program} {w : World} {K : PySem.W.Frag} {mg : Str → Option Value} {base : Heap}
theorem sc_gains_in : FnScope ["market", "node", "child", "growth", "prices", "later", "payouts", "old", "now", "paid"] ["market", "node", "child"] (defScope st_gains_in) := ⟨rfl, rfl, rfl, by decide +kernel, rfl, by decide +kernel, by decide +kernel⟩
theorem fn_gains_in (T : Top K mg) : FnIs P w K mg base "gains_in" ["market", "node", "child"] 3 R_gains_in := by
  refine mkD (d := dd_gains_in) T 9 rfl rfl rfl sc_gains_in (fun _ _ _ _ _ _ us hl => match us, hl with | [_, _, _], _ => rfl) (fun f cdv A outer s H E hr ds x hR _ => ?_)
  obtain ⟨names, m, k, c, rfl, W, hk, hc, rfl⟩ := hR
  have nd := sc_gains_in.nd
  have w1 := W.at_ hk
  have w2 := W.at_ hc
  have hm := W.many
  refine dss_seq (ds_asg (de_tup (da_cons (de_growth (de_node (de_nodes (de_var 0 rfl)) (de_var 1 rfl) hk)) (da_cons (de_prices (de_node (de_nodes (de_var 0 rfl)) (de_var 1 rfl) hk)) da_nil))) (dg_tup rfl (dgs_cons (dg_name 3 nd) (dgs_cons (dg_name 4 nd) dgs_nil))) rfl) ?_
  refine dss_seq (ds_par 5 6 rfl nd (da_cons (de_prices (de_node (de_nodes (de_var 0 rfl)) (de_var 2 rfl) hc)) (da_cons (de_payouts (de_node (de_nodes (de_var 0 rfl)) (de_var 2 rfl) hc)) da_nil)) rfl rfl) ?_
  refine dss_one (ds_ret (de_dl (dl_dc rfl nd (dc_map [("old", 7), ("now", 8), ("paid", 9)] (List.range m.many) (fun i => .tuple [num (getQ (nodeAt m k).pr i), num (getQ (nodeAt m c).pr i), num (getQ (nodeAt m c).po i)])
    (fun a => num ((getQ (nodeAt m c).pr a + getQ (nodeAt m c).po a) - (nodeAt m k).g * getQ (nodeAt m k).pr a))
    (fun i => [.d (marketD names m), .d (.int (k : Nat)), .d (.int (c : Nat)), .d (num (nodeAt m k).g), .d (numL (nodeAt m k).pr), .d (numL (nodeAt m c).pr), .d (numL (nodeAt m c).po), .d (num (getQ (nodeAt m k).pr i)), .d (num (getQ (nodeAt m c).pr i)), .d (num (getQ (nodeAt m c).po i))])
    (by rw [← zp3D_range w1.pr w2.pr w2.po]; exact di_zip3 (T.free _ (by decide)) (de_var 4 rfl) (de_var 5 rfl) (de_var 6 rfl)) (by rw [List.length_range]; omega) rfl (fun u hu s H C cl fp => ?_)))) ?_)
  · obtain ⟨s1, s2, s3, s4⟩ := gains_sm W hk hc (List.mem_range.mp hu)
    exact ⟨_, (by decide), dg_tup rfl (dgs_cons (dg_name 7 nd) (dgs_cons (dg_name 8 nd) (dgs_cons (dg_name 9 nd) dgs_nil))), fun B1 e1 =>
      de_call (fn_minus T) hr (da_cons (de_call (fn_plus T) hr (da_cons (de_var 8 rfl) (da_cons (de_var 9 rfl) da_nil)) ⟨_, _, rfl, s1.mono (by decide), s2.mono (by decide), trivial, rfl⟩)
        (da_cons (de_call (fn_times T) hr (da_cons (de_var 3 rfl) (da_cons (de_var 7 rfl) da_nil)) ⟨_, _, rfl, s3.mono (by decide), s4.mono (by decide), trivial, rfl⟩) da_nil)) ⟨_, _, rfl, (s1.add s2).mono (by decide), (s3.mul s4).mono (by decide), trivial, rfl⟩⟩
  · show PyData.list _ = numL _
    unfold numL gainsIn
    rw [List.map_map]
    rfl
theorem sc_gains : FnScope ["market", "node", "child"] ["market", "node"] (defScope st_gains) := ⟨rfl, rfl, rfl, by decide +kernel, rfl, by decide +kernel, by decide +kernel⟩
theorem fn_gains (T : Top K mg) : FnIs P w K mg base "gains" ["market", "node"] 4 R_gains := by
  refine mkD (d := dd_gains) T 10 rfl rfl rfl sc_gains (fun _ _ _ _ _ _ us hl => match us, hl with | [_, _], _ => rfl) (fun f cdv A outer s H E hr ds x hR _ => ?_)
  obtain ⟨names, m, k, rfl, W, hk, rfl⟩ := hR
  have nd := sc_gains.nd
  have hm := W.len
  have hl := kids_len m k
  refine dss_one (ds_ret (de_dl (dl_dc rfl nd (dc_map [("child", 2)] (kids m k) (fun i => .int (i : Nat)) (fun c => numL (gainsIn m k c)) (fun i => [.d (marketD names m), .d (.int (k : Nat)), .d (.int (i : Nat))])
    (di_list (de_call (fn_children T) (hr.mono (by decide)) (da_cons (de_var 0 rfl) (da_cons (de_var 1 rfl) da_nil)) ⟨_, _, _, rfl, W, rfl⟩)) (by omega) rfl (fun u hu s H C cl fp => ⟨_, (by decide), dg_name 2 nd, fun B1 e1 =>
      de_call (fn_gains_in T) hr (da_cons (de_var 0 rfl) (da_cons (de_var 1 rfl) (da_cons (de_var 2 rfl) da_nil))) ⟨_, _, _, _, rfl, W, hk, kids_lt hu, rfl⟩⟩)))) ?_)
  show PyData.list _ = numLL _
  unfold numLL gains
  rw [List.map_map]
  rfl
theorem sc_is_mean : FnScope ["rule", "mean", "way"] ["rule", "mean"] (defScope st_is_mean) := ⟨rfl, rfl, rfl, by decide +kernel, rfl, by decide +kernel, by decide +kernel⟩
theorem fn_is_mean (T : Top K mg) : FnIs P w K mg base "is_mean" ["rule", "mean"] 2 R_is_mean := by
  refine mkD (d := dd_is_mean) T 27 rfl rfl rfl sc_is_mean (fun _ _ _ _ _ _ us hl => match us, hl with | [_, _], _ => rfl) (fun f cdv A outer s H E hr ds x hR _ => ?_)
  obtain ⟨r, q, rfl, hq, rfl⟩ := hR
  have nd := sc_is_mean.nd
  refine dss_seq (ds_set 2 nd (de_call (fn_compare T) hr (da_cons (de_var 1 rfl) (da_cons (de_nought T) da_nil)) ⟨_, _, rfl, hq, Sm.zero (by decide), trivial, rfl⟩) rfl) ?_
  refine dss_cons (mid := fun s => s = [.d (ruleD r), .d (num q), .d (.int (cmp q 0))] ∧ r ≠ .any) (ds_if (dt_is (dt_cmp cmp_eqS (de_var 0 rfl) de_str) (rule_any r)) (fun h => dss_end (ds_ret (de_cmp cmp_eqI (de_var 2 rfl) de_int) ?_)) (fun h => dss_nil ⟨rfl, of_decide_eq_false h⟩)) ?_
  · have h' := of_decide_eq_true h
    subst h'
    show PyData.bool _ = .bool _
    rw [cmp_nought]
    rfl
  rintro ss' ⟨rfl, n1⟩
  refine dss_cons (mid := fun s => s = [.d (ruleD r), .d (num q), .d (.int (cmp q 0))] ∧ r ≠ .long) (ds_if (dt_is (dt_cmp cmp_eqS (de_var 0 rfl) de_str) (rule_long r)) (fun h => dss_end (ds_ret (de_cmp cmp_le (de_var 2 rfl) de_int) ?_)) (fun h => dss_nil ⟨rfl, of_decide_eq_false h⟩)) ?_
  · have h' := of_decide_eq_true h
    subst h'
    show PyData.bool _ = .bool _
    rw [cmp_le0]
    rfl
  rintro ss' ⟨rfl, n2⟩
  refine dss_cons (mid := fun s => s = [.d (ruleD r), .d (num q), .d (.int (cmp q 0))] ∧ r ≠ .short) (ds_if (dt_is (dt_cmp cmp_eqS (de_var 0 rfl) de_str) (rule_short r)) (fun h => dss_end (ds_ret (de_cmp cmp_ge (de_var 2 rfl) de_int) ?_)) (fun h => dss_nil ⟨rfl, of_decide_eq_false h⟩)) ?_
  · have h' := of_decide_eq_true h
    subst h'
    show PyData.bool _ = .bool _
    rw [cmp_ge0]
    rfl
  rintro ss' ⟨rfl, n3⟩
  refine dss_one (ds_ret de_bl ?_)
  show PyData.bool true = .bool _
  cases r with
  | any => exact absurd rfl n1
  | long => exact absurd rfl n2
  | short => exact absurd rfl n3
  | none_ => rfl
theorem sc_keep_means : FnScope ["market", "node", "numbers", "won", "asset", "rule", "line"] ["market", "node", "numbers"] (defScope st_keep_means) := ⟨rfl, rfl, rfl, by decide +kernel, rfl, by decide +kernel, by decide +kernel⟩
theorem gainsIn_len (m : Market) (k c : Nat) : (gainsIn m k c).length = m.many := by simp [gainsIn]
theorem fn_keep_means (T : Top K mg) : FnIs P w K mg base "keep_means" ["market", "node", "numbers"] 5 R_keep_means := by
  refine mkD (d := dd_keep_means) T 28 rfl rfl rfl sc_keep_means (fun _ _ _ _ _ _ us hl => match us, hl with | [_, _, _], _ => rfl) (fun f cdv A outer s H E hr ds x hR _ => ?_)
  obtain ⟨names, m, k, y, rfl, W, hk, ok, rfl⟩ := hR
  have nd := sc_keep_means.nd
  have w1 := W.at_ hk
  refine dss_seq (ds_set 3 nd (de_call (fn_gains T) hr (da_cons (de_var 0 rfl) (da_cons (de_var 1 rfl) da_nil)) ⟨_, _, _, rfl, W, hk, rfl⟩) rfl) ?_
  refine dss_cons (mid := fun s => keepMeans m k y = true) (ds_for PassesOwn.never rfl (di_enum (T.free _ (by decide)) (de_rules (de_node (de_nodes (de_var 0 rfl)) (de_var 1 rfl) hk))) (fun i s => (∃ c4 c5, s = [.d (marketD names m), .d (.int (k : Nat)), .d (numL y), .d (numLL (gains m k)), c4, c5, .no]) ∧ ∀ j r, j < i → (nodeAt m k).rules[j]? = some r → isMean r (dotQ y (col (gains m k) j)) = true) ⟨⟨.no, .no, rfl⟩, fun j r hj => by omega⟩ ?_ ?_) ?_
  · rintro i d ss' hd ⟨⟨c4, c5, rfl⟩, hall⟩
    obtain ⟨z, hz, rfl⟩ := enD_get hd
    obtain ⟨r, hr', rfl, hi, hm, ht⟩ := map_get hz
    have hi' : i < m.many := by rw [← w1.rules]; exact hi
    have dok := ok i hi'
    refine ⟨_, _, dg_tup rfl (dgs_cons (dg_name 4 nd) (dgs_cons (dg_name 5 nd) dgs_nil)), fun B1 e1 => ?_⟩
    have gl : (gains m k).length < 100000 := by unfold gains; rw [List.length_map]; have := kids_len m k; have := W.len; omega
    refine dss_one (ds_if (dt_not (dt_val (de_call (fn_is_mean T) (hr.mono (by decide)) (da_cons (de_var 5 rfl) (da_cons (de_call (fn_dot T) hr (da_cons (de_var 2 rfl) (da_cons (d := numL (col (gains m k) i)) (de_is (de_dl (dl_dc rfl nd (dc_map [("line", 6)] (gains m k) numL (fun l => num (getQ l i))
      (fun l => [.d (marketD names m), .d (.int (k : Nat)), .d (numL y), .d (numLL (gains m k)), .d (.int (i : Nat)), .d (ruleD r), .d (numL l)]) (di_list (de_var 3 rfl)) gl rfl (fun u hu s H C cl fp => ⟨_, (by decide), dg_name 6 nd, fun B1 e1 => de_at (de_var 6 rfl) (de_var 4 rfl) ?_⟩)))) ?_) da_nil)) ⟨_, _, rfl, dok.1, dok.2.1, dok.2.2.1, dok.2.2.2, rfl⟩) da_nil)) ⟨_, _, rfl, dok.sm, rfl⟩))) (fun h => dss_one (ds_ret de_bl ?_)) (fun h => dss_nil ⟨⟨_, _, rfl⟩, ?_⟩))
    · unfold gains at hu
      obtain ⟨c, _, rfl⟩ := List.mem_map.mp hu
      rw [gainsIn_len]; exact hi'
    · show PyData.list _ = numL _
      unfold numL col
      rw [List.map_map]
      rfl
    · show PyData.bool false = .bool _
      have h' : isMean r (dotQ y (col (gains m k) i)) = false := by simpa using h
      have : keepMeans m k y = false := by
        unfold keepMeans
        rw [List.all_eq_false]
        refine ⟨(r, i), ?_, by rw [h']; decide⟩
        rw [List.mem_zipIdx_iff_getElem?]
        simpa using hr'
      rw [this]
    · intro j r' hj hj2
      have h' : isMean r (dotQ y (col (gains m k) i)) = true := by simpa using h
      rcases Nat.lt_or_ge j i with q | q
      · exact hall j r' q hj2
      · have e : j = i := by omega
        subst e
        rw [hr'] at hj2
        cases hj2
        exact h'
  · rintro ss' ⟨_, hall⟩
    rw [enD_len, List.length_map] at hall
    unfold keepMeans
    rw [List.all_eq_true]
    rintro ⟨r, j⟩ hp
    have hp' : (nodeAt m k).rules[j]? = some r := by simpa using List.mem_zipIdx_iff_getElem?.mp hp
    exact hall j r (List.getElem?_eq_some_iff.mp hp').1 hp'
  · intro ss' e
    refine dss_one (ds_ret de_bl ?_)
    rw [e]
/-! ### is_weights: one default -/
structure FnIsD (P : Program) (w : World) (K : PySem.W.Frag) (mg : Str → Option Value) (base : Heap) (x : Str) (ps : List Str) (n k : Nat) (dd : List PyData) (R : List PyData → PyData → Prop) : Prop where
  ex : ∃ f fd us vs, FnOk P w K mg base CX0 k f fd ps (spD K ps.length R) ∧ mg x = some (.ref f) ∧ PySem.W.keepIn K (.ref f) = true ∧ Binds K fd ps us ∧ Vals vs us ∧ (∀ H, IsAll K H vs dd) ∧ n + dd.length = ps.length
theorem de_callD {X : Cx} {B : Hp} {ss : List SD} {e : Expr} {es : List Expr} {pos p : Pos} {ds dd : List PyData} {d : PyData} {x : Str} {ps : List Str} {n k : Nat} {R : List PyData → PyData → Prop} (G : FnIsD X.prog X.w X.K X.mg X.base x ps n k dd R) (hr : Room k X.A) (ha : DA X B ss (e :: es) ds) (hR : R (ds ++ dd) d) (hlen : ds.length = n := by rfl) (hg : Gl X x := by rfl)
    (hdb : (x == ("__debug__" : Str)) = false := by decide) (he : starEach (e :: es) X.env = (false, eval e X.env) :: starEach es X.env := by rfl) (hpl : (backTo pos (starEach es X.env)).any (·.1) = false := by rfl) : DE X B ss (.Call (.Name x p) (e :: es) [] pos) d := fun Z M σ H hh Q kk => by
  obtain ⟨f, fd, us, dv, F, hm, hk, hb, hv, hdd, hn⟩ := G.ex
  refine ⟨_, pe_call (t := cA X (e :: es)) F hr hg hm hk hb hv pass0 cA_ok hdb he hpl, ha Z M σ H hh _ fun vs H1 e1 r1 => ?_⟩
  exact ⟨M, ds ++ dd, d, r1.app (hdd _), by rw [List.length_append, hlen, hn], (hh.step e1).mH, hR, fun v H' e2 r2 => kk v H' (e1.trans e2) r2⟩
theorem sc_is_weights : FnScope ["market", "node", "numbers", "positive", "one"] ["market", "node", "numbers", "positive"] (defScope st_is_weights) := ⟨rfl, rfl, rfl, by decide +kernel, rfl, by decide +kernel, by decide +kernel⟩
theorem fn_is_weights (T : Top K mg) : FnIsD P w K mg base "is_weights" ["market", "node", "numbers", "positive"] 3 6 [.bool false] R_is_weights := by
  obtain ⟨fd, F⟩ := T.fn 29 dd_is_weights rfl
  have hb : ∃ ds, Vals [V.bl false] ds ∧ Binds K fd ["market", "node", "numbers", "positive"] ds := FunD.binds0 (kws := [("positive", .bl false)]) F 3 (by decide) rfl (fun D doc pm an cdv ct us ks h1 h2 => match us, h1, ks, h2 with
    | [_, _, _], _, [_], _ => ⟨_, _, _, _, _, _, rfl, rfl, rfl⟩)
  obtain ⟨us, hv, hb⟩ := hb
  refine ⟨_, fd, us, [.bl false], F.ok sc_is_weights (fun vs H Q E h => ?_) (fun cdv A outer s H vs Q E hr h => ?_), T.glo 29 dd_is_weights rfl, F.kp, hb, hv, fun H => .cons (.bl false) .nil, rfl⟩
  · obtain ⟨M, ds, d, r, hl, _⟩ := h
    rw [r.len, hl]
  · obtain ⟨M, ds, d, r, hl, hM, hR, q⟩ := h
    have hh := held_start (N := ["market", "node", "numbers", "positive", "one"]) r hM
    rw [hl] at hh
    suffices hbody : DSs (cxOf CX0 P w K mg base ["market", "node", "numbers", "positive", "one"] dd_is_weights.qual dd_is_weights.scope (He.fAd K dd_is_weights.at_) cdv A outer s H E).nox H (startS ds 1) dd_is_weights.body ⟨fun _ => False, fun d' => d' = d, fun _ => False, fun _ => False⟩ by
      obtain ⟨t, ht, hq⟩ := hbody M M _ H hh { nx := fun _ H' => Q .non H', rt := Q } ⟨fun _ _ _ _ z => z.elim, fun v H' d' e ex r => by subst e; exact q v H' ex r, fun _ _ _ _ z => z.elim, fun _ _ _ _ z => z.elim⟩
      exact ⟨t, ht.nox, hq⟩
    clear hh q r
    obtain ⟨names, m, k, y, rfl, W, hk, hy, sok, ok, rfl⟩ := hR
    have nd := sc_is_weights.nd
    have hml := W.len
    have hkl := kids_len m k
    have dch : ∀ {X : Cx} {B : Hp}, True := trivial
    refine dss_cons (mid := fun s => s = [.d (marketD names m), .d (.int (k : Nat)), .d (numL y), .d (.bool false), .no] ∧ (!(kids m k).isEmpty && decide (y.length = (kids m k).length)) = true) (ds_if (t := !(!(kids m k).isEmpty && decide (y.length = (kids m k).length))) (dt_is (dt_w (dw_or (dt_cmp cmp_eqI (de_lenL (T.free _ (by decide)) (de_call (fn_children T) (hr.mono (by decide)) (da_cons (de_var 0 rfl) (da_cons (de_var 1 rfl) da_nil)) ⟨_, _, _, rfl, W, rfl⟩)) de_int)
      fun _ => dw_or1 (dt_cmp cmp_neI (de_lenL (T.free _ (by decide)) (de_var 2 rfl)) (de_lenL (T.free _ (by decide)) (de_call (fn_children T) (hr.mono (by decide)) (da_cons (de_var 0 rfl) (da_cons (de_var 1 rfl) da_nil)) ⟨_, _, _, rfl, W, rfl⟩))))) ?_) (fun h => dss_end (ds_ret de_bl ?_)) (fun h => dss_nil ⟨rfl, by simpa using h⟩)) ?_
    · rw [List.length_map, List.length_map, Bool.not_and, Bool.not_not]
      congr 1
      · cases kids m k <;> simp
        omega
      · congr 1
        rw [decide_eq_decide]
        omega
    · show PyData.bool false = .bool _
      have h' : (!(kids m k).isEmpty && decide (y.length = (kids m k).length)) = false := bnot_t h
      unfold isWeights
      rw [h']
      rfl
    rintro ss' ⟨rfl, g1⟩
    refine dss_cons (mid := fun s => s = [.d (marketD names m), .d (.int (k : Nat)), .d (numL y), .d (.bool false), .no] ∧ (decide (sumQ y = 1) && y.all fun q => decide (0 ≤ q)) = true) (ds_if (t := !(decide (sumQ y = 1) && y.all fun q => decide (0 ≤ q))) (dt_is (dt_w (dw_or (dt_cmp (cmp_neN (r := 1) hr.units) (de_call (fn_total T) (hr.mono (by decide)) (da_cons (de_var 2 rfl) da_nil) ⟨_, rfl, sok, rfl⟩) (de_one_ T))
      fun _ => dw_or1 (dt_val (de_any (bs := y.map fun q => decide (cmp q 0 < 0)) rfl (T.free _ (by decide)) (de_is (de_dl (dl_dc rfl nd (dc_map [("one", 4)] y num (fun q => .bool (decide (cmp q 0 < 0))) (fun q => [.d (marketD names m), .d (.int (k : Nat)), .d (numL y), .d (.bool false), .d (num q)]) (di_list (de_var 2 rfl)) (by omega) rfl
        (fun u hu s H C cl fp => ⟨_, (by decide), dg_name 4 nd, fun B1 e1 => de_cmp cmp_lt (de_call (fn_compare T) (hr.mono (by decide)) (da_cons (de_var 4 rfl) (da_cons (de_nought (X := Blk _ _ _ _ _ _ _) T) da_nil)) ⟨_, _, rfl, sok.1 _ hu, Sm.zero (by decide), trivial, rfl⟩) (de_intB (i := false) (T.free _ (by decide)) (de_var 3 rfl))⟩)))) (by rw [List.map_map]; rfl)))))) ?_) (fun h => dss_end (ds_ret de_bl ?_)) (fun h => dss_nil ⟨rfl, by simpa using h⟩)) ?_
    · rw [Bool.not_and]
      congr 1
      rw [List.any_map]
      have : ∀ l : List Rat, (l.any (id ∘ fun q => decide (cmp q 0 < 0))) = !(l.all fun q => decide (0 ≤ q)) := by
        intro l
        induction l with
        | nil => rfl
        | cons a l ih =>
          rw [List.any_cons, List.all_cons, ih, Bool.not_and]
          congr 1
          show decide (cmp a 0 < 0) = _
          rw [cmp_neg]
          by_cases q : a < 0
          · have : ¬ 0 ≤ a := fun z => by grind
            simp [q, this]
          · have : 0 ≤ a := by grind
            simp [q, this]
      exact this y
    · show PyData.bool false = .bool _
      have h' : (decide (sumQ y = 1) && y.all fun q => decide (0 ≤ q)) = false := by
        cases e : (decide (sumQ y = 1) && y.all fun q => decide (0 ≤ q))
        · rfl
        · rw [e] at h; cases h
      unfold isWeights
      rw [h', Bool.and_false]
      rfl
    rintro ss' ⟨rfl, g2⟩
    refine dss_one (ds_ret (de_call (fn_keep_means T) hr (da_cons (de_var 0 rfl) (da_cons (de_var 1 rfl) (da_cons (de_var 2 rfl) da_nil))) ⟨_, _, _, _, rfl, W, hk, ok, rfl⟩) ?_)
    show PyData.bool _ = .bool _
    unfold isWeights
    rw [g1, g2]
    rfl
end
end Hk
end
section
set_option Elab.async false
set_option linter.all false
set_option maxRecDepth 100000
set_option maxHeartbeats 4000000
namespace Hk
open PySem PySem.Spec PyProof.Rows L2
open Evl (Ex)
open Hq
/-! ### shapes -/
theorem numL_lay : ∀ xs : List Rat, PyData.canLayAll0 (xs.map num) = true ∧ PyData.depthAll (xs.map num) ≤ 2
  | [] => ⟨rfl, by simp [PyData.depthAll]⟩
  | x :: xs => by
    obtain ⟨h1, h2⟩ := numL_lay xs
    refine ⟨?_, ?_⟩
    · rw [List.map_cons, PyData.canLayAll0, h1]; rfl
    · rw [List.map_cons, PyData.depthAll]
      have : (num x).depth ≤ 2 := by simp [num, PyData.depth, PyData.depthAll]
      omega
theorem shaped_numL (xs : List Rat) : SeqAt.shaped (numL xs) = true := by
  obtain ⟨h1, h2⟩ := numL_lay xs
  unfold SeqAt.shaped numL
  rw [Bool.and_eq_true]
  refine ⟨by rw [PyData.canLay0]; exact h1, decide_eq_true ?_⟩
  rw [PyData.depth]; omega
theorem numLL_lay : ∀ xs : List (List Rat), PyData.canLayAll0 (xs.map numL) = true ∧ PyData.depthAll (xs.map numL) ≤ 3
  | [] => ⟨rfl, by simp [PyData.depthAll]⟩
  | x :: xs => by
    obtain ⟨h1, h2⟩ := numLL_lay xs
    obtain ⟨h3, h4⟩ := numL_lay x
    refine ⟨?_, ?_⟩
    · rw [List.map_cons, PyData.canLayAll0, h1, Bool.and_true]
      unfold numL
      rw [PyData.canLay0]; exact h3
    · rw [List.map_cons, PyData.depthAll]
      have : (numL x).depth ≤ 3 := by unfold numL; rw [PyData.depth]; omega
      omega
theorem shaped_numLL (xs : List (List Rat)) : SeqAt.shaped (.list (xs.map numL)) = true := by
  obtain ⟨h1, h2⟩ := numLL_lay xs
  unfold SeqAt.shaped
  rw [Bool.and_eq_true]
  refine ⟨by rw [PyData.canLay0]; exact h1, decide_eq_true ?_⟩
  rw [PyData.depth]; omega
theorem eqv_nums : ∀ xs ys : List Rat, PyData.eqvAll (xs.map num) (ys.map num) = decide (xs = ys)
  | [], [] => rfl
  | [], y :: ys => by simp [PyData.eqvAll]
  | x :: xs, [] => by simp [PyData.eqvAll]
  | x :: xs, y :: ys => by
    rw [List.map_cons, List.map_cons, PyData.eqvAll, eqv_nums xs ys, eqv_num]
    by_cases h1 : x = y
    · by_cases h2 : xs = ys <;> simp [h1, h2]
    · simp [h1]
theorem eqv_numL (xs ys : List Rat) : PyData.eqv (numL xs) (numL ys) = decide (xs = ys) := eqv_nums xs ys
/-! ### chained comparisons -/
theorem dt_chain {X : Cx} {B : Hp} {ss : List SD} {a b c : Expr} {x y z : PyData} {pos : Pos} {op op' : CmpOp} {k k' : Bool} (C : CmpD X B ss op x y k) (C' : CmpD X B ss op' y z k') (ha : DE X B ss a x) (hb : DE X B ss b y) (hc : DE X B ss c z)
    (hm : lastMarks [op, op'] [b, c] = false := by with_unfolding_all rfl) : DT X B ss (.Compare a [op, op'] [b, c] pos) (k && k') := fun Z M σ H hh Q kk => by
  obtain ⟨r, ho, hr⟩ := C
  obtain ⟨r', ho', hr'⟩ := C'
  refine ⟨_, pt_chain (ta := cE X a) (tb := cE X b) (tc := cE X c) ho ho' cE_ok cE_ok cE_ok hm, ha Z M σ H hh _ fun v H1 e1 r1 => hb Z M σ H1 (hh.step e1) _ fun w H2 e2 r2 => hr Z M σ H2 v w _ ((hh.step e1).step e2) (r1.up (cut_ex e2)) r2 ⟨k, rfl, ?_⟩⟩
  cases k with
  | false => exact ⟨false, rfl, kk H2 (e1.trans e2)⟩
  | true =>
    rw [if_pos rfl]
    refine hc Z M σ H2 ((hh.step e1).step e2) _ fun u H3 e3 r3 => hr' Z M σ H3 w u _ (((hh.step e1).step e2).step e3) (r2.up (cut_ex e3)) r3 ⟨k', rfl, ?_⟩
    exact kk H3 ((e1.trans e2).trans e3)
/-! ### parts_of -/
def partStep (found : List (List Nat)) (x : Nat) : List (List Nat) := found ++ found.map fun p => p ++ [x]
theorem partsOf_eq (t : List Nat) : partsOf t = t.foldl partStep [[]] := by
  cases t <;> rfl
theorem partStep_len (t : List Nat) : ∀ acc, (t.foldl partStep acc).length = acc.length * 2 ^ t.length := by
  induction t with
  | nil => intro acc; simp
  | cons x t ih =>
    intro acc
    rw [List.foldl_cons, ih, partStep, List.length_append, List.length_map, List.length_cons, Nat.pow_succ]
    rw [← Nat.mul_two]
    rw [Nat.mul_assoc]; congr 1; rw [Nat.mul_comm]
theorem part_len (t : List Nat) : ∀ (acc : List (List Nat)) (b : Nat), (∀ p ∈ acc, p.length ≤ b) → ∀ p ∈ t.foldl partStep acc, p.length ≤ b + t.length := by
  induction t with
  | nil => intro acc b h p hp; exact h p hp
  | cons x t ih =>
    intro acc b h p hp
    have := ih (partStep acc x) (b + 1) (fun q hq => by
      unfold partStep at hq
      rcases List.mem_append.mp hq with z | z
      · have := h q z; omega
      · obtain ⟨q', hq', rfl⟩ := List.mem_map.mp z
        have := h q' hq'
        simp; omega) p hp
    rw [List.length_cons]; omega
def R_parts_of (ds : List PyData) (x : PyData) : Prop := ∃ t, ds = [intsD t] ∧ t.length ≤ 10 ∧ x = .list ((partsOf t).map intsD)
def R_before (ds : List PyData) (x : PyData) : Prop := ∃ xs ys, ds = [numL xs, numL ys] ∧ AllSm 4400 xs ∧ AllSm 4400 ys ∧ x = .bool (comesBefore xs ys)
def R_put_in (ds : List PyData) (x : PyData) : Prop := ∃ ls y, ds = [numLL ls, numL y] ∧ (∀ l ∈ ls, AllSm 4400 l) ∧ AllSm 4400 y ∧ ls.length < 10000 ∧ x = numLL (Hq.putIn ls y)
theorem before_drop (xs ys : List Rat) (i : Nat) (h1 : i < xs.length) (h2 : i < ys.length) : comesBefore (xs.drop i) (ys.drop i) = if xs[i] ≠ ys[i] then decide (xs[i] < ys[i]) else comesBefore (xs.drop (i + 1)) (ys.drop (i + 1)) := by
  rw [List.drop_eq_getElem_cons h1, List.drop_eq_getElem_cons h2, comesBefore]
theorem before_end (xs ys : List Rat) (i : Nat) (h : xs.length ≤ i ∨ ys.length ≤ i) : comesBefore (xs.drop i) (ys.drop i) = false := by
  rcases h with h | h
  · rw [List.drop_eq_nil_of_le h]; rfl
  · rw [List.drop_eq_nil_of_le h]
    cases xs.drop i <;> rfl
section
variable {P : Program} {w : World} {K : PySem.W.Frag} {mg : Str → Option Value} {base : Heap}
theorem sc_parts_of : FnScope ["things", "found", "thing", "part"] ["things"] (defScope st_parts_of) := ⟨rfl, rfl, rfl, by decide +kernel, rfl, by decide +kernel, by decide +kernel⟩
theorem fn_parts_of (T : Top K mg) : FnIs P w K mg base "parts_of" ["things"] 1 R_parts_of := by
  refine mkD (d := dd_parts_of) T 30 rfl rfl rfl sc_parts_of (fun _ _ _ _ _ _ us hl => match us, hl with | [_], _ => rfl) (fun f cdv A outer s H E hr ds x hR _ => ?_)
  obtain ⟨t, rfl, ht, rfl⟩ := hR
  have nd := sc_parts_of.nd
  let st : List (List Nat) → SD → List SD := fun found c => [.d (intsD t), .d (.list (found.map intsD)), c, .no]
  refine dss_seq (ds_setL 1 nd (dl_lst (da_cons (de_dl (dl_lst da_nil)) da_nil)) rfl) (dss_frz (i := 1) rfl ?_)
  refine dss_cons (mid := fun s => ∃ c, s = st (partsOf t) c) (ds_for PassesOwn.never rfl (di_list (de_var 0 rfl)) (fun i s => ∃ c, s = st ((t.take i).foldl partStep [[]]) c) ⟨.no, rfl⟩ ?_ ?_) ?_
  · rintro i d ss' hd ⟨c, rfl⟩
    obtain ⟨x, hx, rfl, hi, hm, htk⟩ := map_get hd
    have l1 : ((t.take i).foldl partStep [[]]).length ≤ 1024 := by
      rw [partStep_len, List.length_take, List.length_singleton, Nat.one_mul]
      exact Nat.le_trans (Nat.pow_le_pow_right (by decide) (show min i t.length ≤ 10 by omega)) (by decide)
    have l2 : ∀ p ∈ (t.take i).foldl partStep [[]], p.length ≤ 10 := fun p hp => by
      have := part_len (t.take i) [[]] 0 (fun q hq => by simp at hq; rw [hq]; exact Nat.le_refl _) p hp
      rw [List.length_take] at this; omega
    refine ⟨_, _, dg_name 2 nd, fun B1 e1 => dss_seq (ds_setL 1 nd (dl_cat (de_var 1 rfl) (de_dl (dl_dc rfl nd (dc_map [("part", 3)] ((t.take i).foldl partStep [[]]) intsD (fun p => intsD (p ++ [x])) (fun p => [.d (intsD t), .d (.list (((t.take i).foldl partStep [[]]).map intsD)), .d (.int (x : Nat)), .d (intsD p)]) (di_list (de_var 1 rfl)) (by omega) rfl
      (fun u hu s H C cl fp => ⟨_, (by decide), dg_name 3 nd, fun B1 e1 => de_is (de_dl (dl_cat (de_var 3 rfl) (de_dl (dl_lst (da_cons (de_var 2 rfl) da_nil))) (Evl.sz_of (by have := l2 u hu; simp; omega)))) (by unfold intsD; rw [List.map_append]; rfl)⟩)))) (Evl.sz_of (by simp only [List.length_map]; omega))) rfl) (dss_frz (i := 1) rfl (dss_nil ⟨.d (.int (x : Nat)), ?_⟩))⟩
    rw [htk, List.foldl_append]
    show _ = st (partStep ((t.take i).foldl partStep [[]]) x) _
    unfold partStep
    simp only [st, List.map_append, List.map_map]
    rfl
  · rintro ss' ⟨c, rfl⟩
    refine ⟨c, ?_⟩
    rw [List.length_map, List.take_length, partsOf_eq]
  · rintro ss' ⟨c, rfl⟩
    exact dss_one (ds_ret (de_var 1 rfl) rfl)
theorem sc_comes_before : FnScope ["one", "other", "left", "right"] ["one", "other"] (defScope st_comes_before) := ⟨rfl, rfl, rfl, by decide +kernel, rfl, by decide +kernel, by decide +kernel⟩
theorem fn_comes_before (T : Top K mg) : FnIs P w K mg base "comes_before" ["one", "other"] 2 R_before := by
  refine mkD (d := dd_comes_before) T 32 rfl rfl rfl sc_comes_before (fun _ _ _ _ _ _ us hl => match us, hl with | [_, _], _ => rfl) (fun f cdv A outer s H E hr ds x hR _ => ?_)
  obtain ⟨xs, ys, rfl, h1, h2, rfl⟩ := hR
  have nd := sc_comes_before.nd
  refine dss_cons (mid := fun s => comesBefore xs ys = false) (ds_for PassesOwn.never rfl (di_zip (T.free _ (by decide)) (de_var 0 rfl) (de_var 1 rfl)) (fun i s => (∃ c2 c3, s = [.d (numL xs), .d (numL ys), c2, c3]) ∧ comesBefore xs ys = comesBefore (xs.drop i) (ys.drop i)) ⟨⟨.no, .no, rfl⟩, rfl⟩ ?_ ?_) ?_
  · rintro i d ss' hd ⟨⟨c2, c3, rfl⟩, hc⟩
    obtain ⟨x', y', hx, hy, rfl⟩ := zpD_get hd
    obtain ⟨a, ha, rfl, hi, ma, _⟩ := map_get hx
    obtain ⟨b, hb, rfl, hj, mb, _⟩ := map_get hy
    have ea : xs[i] = a := (List.getElem?_eq_some_iff.mp ha).2
    have eb : ys[i] = b := (List.getElem?_eq_some_iff.mp hb).2
    rw [before_drop xs ys i hi hj, ea, eb] at hc
    refine ⟨_, _, dg_tup rfl (dgs_cons (dg_name 2 nd) (dgs_cons (dg_name 3 nd) dgs_nil)), fun B1 e1 => dss_one (ds_if (dt_cmp (cmp_neN hr.units) (de_var 2 rfl) (de_var 3 rfl)) (fun h => dss_one (ds_ret (de_cmp cmp_lt (de_call (fn_compare T) hr (da_cons (de_var 2 rfl) (da_cons (de_var 3 rfl) da_nil)) ⟨_, _, rfl, h1 _ ma, h2 _ mb, trivial, rfl⟩) de_int) ?_)) (fun h => dss_nil ⟨⟨_, _, rfl⟩, ?_⟩))⟩
    · show PyData.bool _ = .bool _
      have h' : a ≠ b := by simpa using h
      rw [hc, if_pos h', cmp_neg]
    · have h' : a = b := by simpa using h
      rw [hc, if_neg (by simp [h'])]
  · rintro ss' ⟨_, hc⟩
    rw [hc, before_end]
    rw [zpD_len, List.length_map, List.length_map]
    omega
  · intro ss' e
    exact dss_one (ds_ret de_bl (by rw [e]))
theorem sc_put_in : FnScope ["lists", "one", "before", "other"] ["lists", "one"] (defScope st_put_in) := ⟨rfl, rfl, rfl, by decide +kernel, rfl, by decide +kernel, by decide +kernel⟩
theorem fn_put_in (T : Top K mg) : FnIs P w K mg base "put_in" ["lists", "one"] 3 R_put_in := by
  refine mkD (d := dd_put_in) T 33 rfl rfl rfl sc_put_in (fun _ _ _ _ _ _ us hl => match us, hl with | [_, _], _ => rfl) (fun f cdv A outer s H E hr ds x hR _ => ?_)
  obtain ⟨ls, y, rfl, h1, h2, hl, rfl⟩ := hR
  have nd := sc_put_in.nd
  have ein : (ls.map numL).any (fun z => PyData.eqv z (numL y)) = decide (y ∈ ls) := by
    rw [List.any_map, Bool.eq_iff_iff, List.any_eq_true, decide_eq_true_eq]
    constructor
    · rintro ⟨z, hz, e⟩
      have e' : PyData.eqv (numL z) (numL y) = true := e
      rw [eqv_numL] at e'
      rw [← of_decide_eq_true e']; exact hz
    · intro h
      exact ⟨y, h, by show PyData.eqv (numL y) (numL y) = true; rw [eqv_numL]; exact decide_eq_true rfl⟩
  have hu2 : (cxOf CX0 P w K mg base ["lists", "one", "before", "other"] dd_put_in.qual dd_put_in.scope f cdv A outer s H E).nox.A.units + 65 < cLine := by
    have := hr.un
    show (A.deeper (envOfC dd_put_in.qual dd_put_in.scope s.heap.objs.size f cdv)).units + 65 < cLine
    omega
  refine dss_cons (mid := fun s => s = [.d (numLL ls), .d (numL y), .no, .no] ∧ y ∉ ls) (ds_if (dt_is (dt_cmp (cmp_inD hu2 (shaped_numL y) (shaped_numLL ls)) (de_var 1 rfl) (de_var 0 rfl)) ein) (fun h => dss_end (ds_ret (de_var 0 rfl) ?_)) (fun h => dss_nil ⟨rfl, of_decide_eq_false h⟩)) ?_
  · show numLL ls = numLL _
    unfold Hq.putIn
    rw [if_pos (of_decide_eq_true h)]
  rintro ss' ⟨rfl, hn⟩
  have lf : (ls.filter fun o => comesBefore o y).length ≤ ls.length := List.length_filter_le _ _
  refine dss_seq (ds_setC 2 rfl nd (dc [("other", 3)] ls numL (fun o => comesBefore o y) numL (fun o => [.d (numLL ls), .d (numL y), .no, .d (numL o)]) (di_list (de_var 0 rfl)) (by omega) rfl (fun u hu s H C cl fp => ⟨_, (by decide), dg_name 3 nd, fun B1 e1 =>
    ⟨dt_val (de_call (fn_comes_before T) hr (da_cons (de_var 3 rfl) (da_cons (de_var 1 rfl) da_nil)) ⟨_, _, rfl, h1 u hu, h2, rfl⟩), fun _ => de_var 3 rfl⟩⟩)) rfl rfl) (dss_frz (i := 2) rfl ?_)
  refine dss_one (ds_ret (de_dl (dl_cat (de_dl (dl_cat (de_var 2 rfl) (de_dl (dl_lst (da_cons (de_var 1 rfl) da_nil))) (Evl.sz_of (by simp; omega)))) (de_dl (dl_slice (de_var 0 rfl) (do_some (de_lenL (T.free _ (by decide)) (de_var 2 rfl))) do_none)) (Evl.sz_of ?_))) ?_)
  · rw [cutD_from]; simp; omega
  · show PyData.list _ = numLL _
    rw [cutD_from]
    unfold numLL Hq.putIn
    rw [if_neg hn]
    simp only [List.map_append, List.length_map, List.map_drop]
    rfl
end
end Hk
end
section
set_option Elab.async false
set_option linter.all false
set_option maxRecDepth 100000
set_option maxHeartbeats 4000000
namespace Hk
open PySem PySem.Spec PyProof.Rows L2
open Evl (Ex)
open Hq
def optD : Option (List Rat) → PyData
  | none => .none
  | some x => numL x
theorem de_atL {X : Cx} {B : Hp} {ss : List SD} {a b : Expr} {xs : List (List Rat)} {k : Nat} {pos : Pos} (h : DE X B ss a (numLL xs)) (hb : DE X B ss b (.int k)) (hk : k < xs.length) (hs : PlainIx b := by exact fun _ _ => rfl) : DE X B ss (.Subscript a b pos) (numL (xs.getD k [])) :=
  de_ixL h hb (atI_map numL (by rw [List.getD_eq_getElem?_getD, List.getElem?_eq_getElem hk]; rfl)) hs
theorem fillStages_len : ∀ (ss : List (Nat × List Line × List Line)) (x : List Rat), (ss.foldl fillStage x).length = x.length
  | [], x => rfl
  | s :: r, x => by rw [List.foldl_cons, fillStages_len r]; simp [fillStage]
theorem fillEqs_len : ∀ (ss : List (Nat × Line)) (x : List Rat), (ss.foldl fillEq x).length = x.length
  | [], x => rfl
  | s :: r, x => by rw [List.foldl_cons, fillEqs_len r]; simp [fillEq]
theorem filledIn_len (n : Nat) (so : List (Nat × Line)) (st : List (Nat × List Line × List Line)) : (filledIn n so st).length = n := by
  unfold filledIn
  rw [fillEqs_len, fillStages_len, List.length_replicate]
structure OnlyOk (m : Market) (k : Nat) (s t : List Nat) : Prop where
  sl : s.length < 100
  tl : t.length < 100
  sk : ∀ c ∈ s, c < (kids m k).length
  tk : ∀ a ∈ t, a < m.many
  gok : gaussOk s.length (onlyLines (gains m k) s t) []
  fil : ¬ (gauss s.length (onlyLines (gains m k) s t) []).1.length < s.length → (gauss s.length (onlyLines (gains m k) s t) []).2.1.any (fun l => decide (l.b ≠ 0)) = false → FillOk s.length (gauss s.length (onlyLines (gains m k) s t) []).1 []
def R_only (ds : List PyData) (x : PyData) : Prop := ∃ names m k s t, ds = [marketD names m, .int (k : Nat), intsD s, intsD t] ∧ WfM names m ∧ k < m.nodes.length ∧ OnlyOk m k s t ∧ x = optD (onlyNumbers m k s t)
theorem onlyLines_shp {won : List (List Rat)} {s t : List Nat} : ∀ l ∈ onlyLines won s t, Shp s.length 0 l := fun l hl => by
  unfold onlyLines at hl
  rcases List.mem_cons.mp hl with q | q
  · rw [q]; exact ⟨by simp, rfl⟩
  · obtain ⟨a, _, rfl⟩ := List.mem_map.mp q
    exact ⟨by simp, rfl⟩
section
variable {P : Program} {w : World} {K : PySem.W.Frag} {mg : Str → Option Value} {base : Heap}
theorem sc_only_numbers : FnScope ["market", "node", "some", "tight", "won", "lines", "asset", "solved", "left", "others", "found", "numbers", "place", "child", "line"] ["market", "node", "some", "tight"] (defScope st_only_numbers) := ⟨rfl, rfl, rfl, by decide +kernel, rfl, by decide +kernel, by decide +kernel⟩
theorem fn_only_numbers (T : Top K mg) : FnIs P w K mg base "only_numbers" ["market", "node", "some", "tight"] 7 R_only := by
  refine mkD (d := dd_only_numbers) T 31 rfl rfl rfl sc_only_numbers (fun _ _ _ _ _ _ us hl => match us, hl with | [_, _, _, _], _ => rfl) (fun f cdv A outer s0 H E hr ds x hR _ => ?_)
  obtain ⟨names, m, k, s, t, rfl, W, hk, ok, rfl⟩ := hR
  have nd := sc_only_numbers.nd
  have hsl := ok.sl
  have htl := ok.tl
  have gl : (gains m k).length = (kids m k).length := by unfold gains; rw [List.length_map]
  have kl : (kids m k).length ≤ 60 := Nat.le_trans (kids_len m k) W.len
  let lineOf : Nat → Line := fun a => ⟨s.map fun c => getQ ((gains m k).getD c []) a, 0, []⟩
  let first : Line := ⟨s.map fun _ => 1, 1, []⟩
  let st : PyData → SD → SD → SD → SD → SD → SD → SD → SD → SD → List SD := fun dd c6 c7 c8 c9 c10 c11 c12 c13 c14 => [.d (marketD names m), .d (.int (k : Nat)), .d (intsD s), .d (intsD t), .d (numLL (gains m k)), .d dd, c6, c7, c8, c9, c10, c11, c12, c13, c14]
  refine dss_seq (ds_set 4 nd (de_call (fn_gains T) (hr.mono (by decide)) (da_cons (de_var 0 rfl) (da_cons (de_var 1 rfl) da_nil)) ⟨_, _, _, rfl, W, hk, rfl⟩) rfl) ?_
  refine dss_seq (ds_setL 5 nd (dl_lst (da_cons (d := lineD first) (de_is (de_tup (da_cons (de_dl (dl_dc rfl nd (dc_map [("child", 13)] s (fun i => .int (i : Nat)) (fun _ => num 1) (fun i => [.d (marketD names m), .d (.int (k : Nat)), .d (intsD s), .d (intsD t), .d (numLL (gains m k)), .no, .no, .no, .no, .no, .no, .no, .no, .d (.int (i : Nat)), .no]) (di_list (de_var 2 rfl)) (by omega) rfl
    (fun u hu s H C cl fp => ⟨_, (by decide), dg_name 13 nd, fun B1 e1 => de_one_ (X := Blk _ _ _ _ _ _ _) T⟩)))) (da_cons de_bl (da_cons (de_one_ T) (da_cons (de_dl (dl_lst da_nil)) da_nil))))) ?_) da_nil)) rfl) ?_
  · show PyData.tuple _ = lineD first
    simp only [first, lineD, numL, List.map_map]
    rfl
  refine dss_cons (mid := fun z => ∃ c6, z = [.d (marketD names m), .d (.int (k : Nat)), .d (intsD s), .d (intsD t), .d (numLL (gains m k)), .m ((onlyLines (gains m k) s t).map lineD), c6, .no, .no, .no, .no, .no, .no, .no, .no])
    (ds_for PassesOwn.never rfl (di_list (de_var 3 rfl)) (fun i z => ∃ c6, z = [.d (marketD names m), .d (.int (k : Nat)), .d (intsD s), .d (intsD t), .d (numLL (gains m k)), .m ((first :: (t.take i).map lineOf).map lineD), c6, .no, .no, .no, .no, .no, .no, .no, .no]) ⟨.no, rfl⟩ ?_ ?_) ?_
  · rintro i d ss' hd ⟨c6, rfl⟩
    obtain ⟨a, ha, rfl, hi, hm, htk⟩ := map_get hd
    have ham := ok.tk a hm
    refine ⟨_, _, dg_name 6 nd, fun B1 e1 => dss_one (ds_app 5 rfl (d := lineD (lineOf a)) (de_is (de_tup (da_cons (de_dl (dl_dc rfl nd (dc_map [("child", 13)] s (fun i => .int (i : Nat)) (fun c => num (getQ ((gains m k).getD c []) a)) (fun i => [.d (marketD names m), .d (.int (k : Nat)), .d (intsD s), .d (intsD t), .d (numLL (gains m k)), .m _, .d (.int (a : Nat)), .no, .no, .no, .no, .no, .no, .d (.int (i : Nat)), .no]) (di_list (de_var 2 rfl)) (by omega) rfl
      (fun u hu s H C cl fp => ⟨_, (by decide), dg_name 13 nd, fun B1 e1 => de_at (de_atL (de_var 4 rfl) (de_var 13 rfl) (by rw [gl]; exact ok.sk u hu)) (de_var 6 rfl) ?_⟩)))) (da_cons de_bl (da_cons (de_nought T) (da_cons (de_dl (dl_lst da_nil)) da_nil))))) ?_) ?_ ⟨.d (.int (a : Nat)), ?_⟩)⟩
    · have hc := ok.sk u hu
      have : (gains m k).getD u [] ∈ gains m k := by
        rw [List.getD_eq_getElem?_getD, List.getElem?_eq_getElem (by rw [gl]; exact hc)]
        exact List.getElem_mem _
      obtain ⟨c, _, e⟩ := List.mem_map.mp this
      rw [← e, gainsIn_len]; exact ham
    · show PyData.tuple _ = lineD (lineOf a)
      simp only [lineOf, lineD, numL, List.map_map]
      rfl
    · simp only [List.length_map, List.length_cons, List.length_take]; omega
    · have e : (first :: (t.take (i + 1)).map lineOf).map lineD = (first :: (t.take i).map lineOf).map lineD ++ [lineD (lineOf a)] := by
        rw [htk]; simp
      rw [e]
      rfl
  · rintro ss' ⟨c6, rfl⟩
    refine ⟨c6, ?_⟩
    rw [List.length_map, List.take_length]
    rfl
  rintro ss' ⟨c6, rfl⟩
  refine dss_frz (i := 5) rfl ?_
  have ol : (onlyLines (gains m k) s t).length = t.length + 1 := by unfold onlyLines; simp
  let r := gauss s.length (onlyLines (gains m k) s t) []
  have rl : r.1.length + r.2.1.length = t.length + 1 := by
    rw [← ol]; exact (gauss_len _ _ _ _ rfl).1
  refine dss_seq (ds_asg (de_call (fn_without_equations T) (hr.mono (by decide)) (da_cons (de_lenL (T.free _ (by decide)) (de_var 2 rfl)) (da_cons (de_var 5 rfl) (da_cons (de_dl (dl_lst da_nil)) da_nil))) ⟨s.length, 0, onlyLines (gains m k) s t, [], by rw [List.length_map]; rfl, ok.gok, onlyLines_shp, (fun l hl => nomatch hl), by omega, by omega, by omega, by decide, rfl⟩) (dg_tup rfl (dgs_cons (dg_name 7 nd) (dgs_cons (dg_name 8 nd) (dgs_cons (dg_name 9 nd) dgs_nil)))) rfl) ?_
  let st2 : SD → SD → SD → SD → SD → List SD := fun c10 c11 c12 c13 c14 => [.d (marketD names m), .d (.int (k : Nat)), .d (intsD s), .d (intsD t), .d (numLL (gains m k)), .d (linesD (onlyLines (gains m k) s t)), c6, .d (.list (r.1.map pairD)), .d (linesD r.2.1), .d (linesD r.2.2), c10, c11, c12, c13, c14]
  refine dss_cons (mid := fun z => z = st2 .no .no .no .no .no ∧ ¬ r.1.length < s.length ∧ r.2.1.any (fun l => decide (l.b ≠ 0)) = false) (ds_if (t := decide (r.1.length < s.length) || r.2.1.any (fun l => decide (l.b ≠ 0))) (dt_is (dt_w (dw_or (dt_cmp cmp_lt (de_lenL (T.free _ (by decide)) (de_var 7 rfl)) (de_lenL (T.free _ (by decide)) (de_var 2 rfl)))
    fun _ => dw_or1 (dt_val (de_any (bs := r.2.1.map fun l => !decide (l.b = 0)) rfl (T.free _ (by decide)) (de_is (de_dl (dl_dc rfl nd (dc_map [("line", 14)] r.2.1 lineD (fun l => .bool (!decide (l.b = 0))) (fun l => st2 .no .no .no .no (.d (lineD l))) (di_list (de_var 8 rfl)) (by omega) rfl
      (fun u hu s H C cl fp => ⟨_, (by decide), dg_name 14 nd, fun B1 e1 => de_cmp (cmp_neN hr.units) (de_lb (de_var 14 rfl)) (de_nought (X := Blk _ _ _ _ _ _ _) T)⟩)))) (by rw [List.map_map]; rfl)))))) ?_) (fun h => dss_end (ds_ret de_non ?_)) (fun h => dss_nil ⟨rfl, ?_⟩)) ?_
  · rw [List.length_map, List.length_map, List.any_map]
    congr 1
    · exact decide_eq_decide.mpr Int.ofNat_lt
    · congr 1
      funext l
      simp
  · show PyData.none = optD _
    unfold onlyNumbers
    have : (gauss s.length (onlyLines (gains m k) s t) []).1.length < s.length ∨ (gauss s.length (onlyLines (gains m k) s t) []).2.1.any (fun l => decide (l.b ≠ 0)) = true := by
      rcases Bool.or_eq_true_iff.mp h with q | q
      · exact .inl (of_decide_eq_true q)
      · exact .inr q
    simp only []
    rw [if_pos (by simpa using this)]
    rfl
  · obtain ⟨h1, h2⟩ := Bool.or_eq_false_iff.mp h
    exact ⟨of_decide_eq_false h1, h2⟩
  rintro ss' ⟨rfl, g1, g2⟩
  have eon : onlyNumbers m k s t = some (spread (gains m k).length s (filledIn s.length r.1 [])) := by
    unfold onlyNumbers
    simp only []
    rw [if_neg]
    show ¬ ((decide (r.1.length < s.length) || r.2.1.any (fun l => decide (l.b ≠ 0))) = true)
    rw [g2, decide_eq_false g1]
    simp
  let fd : List Rat := filledIn s.length r.1 []
  refine dss_seq (ds_set 10 nd (d := numL fd) (de_call (fn_filled_in T) hr (da_cons (de_lenL (T.free _ (by decide)) (de_var 2 rfl)) (da_cons (de_var 7 rfl) (da_cons (de_dl (dl_lst da_nil)) da_nil))) ⟨s.length, r.1, [], by rw [List.length_map]; rfl, by omega, ok.fil g1 g2, (fun z hz => nomatch hz), rfl⟩) rfl) ?_
  refine dss_seq (ds_setC 11 rfl nd (dc_map [("child", 13)] (gains m k) numL (fun _ => num 0) (fun l => st2 (.d (numL fd)) .no .no (.d (numL l)) .no) (di_list (de_var 4 rfl)) (by omega) rfl
    (fun u hu s H C cl fp => ⟨_, (by decide), dg_name 13 nd, fun B1 e1 => de_nought (X := Blk _ _ _ _ _ _ _) T⟩)) rfl rfl) ?_
  have e0 : (gains m k).map (fun _ => num 0) = (List.replicate (gains m k).length (0 : Rat)).map num := by
    rw [List.map_replicate, List.map_const']
  let setS : List Rat → Nat × Nat → List Rat := fun acc p => acc.set p.1 (getQ fd p.2)
  have setS_len : ∀ (l : List (Nat × Nat)) (acc : List Rat), (l.foldl setS acc).length = acc.length := by
    intro l
    induction l with
    | nil => intro acc; rfl
    | cons p l ih => intro acc; rw [List.foldl_cons, ih]; simp [setS]
  refine dss_cons (mid := fun z => ∃ c12 c13, z = st2 (.d (numL fd)) (.m ((spread (gains m k).length s fd).map num)) c12 c13 .no) (ds_for PassesOwn.never rfl (di_enum (T.free _ (by decide)) (de_var 2 rfl)) (fun i z => ∃ c12 c13, z = st2 (.d (numL fd)) (.m (((s.zipIdx.take i).foldl setS (List.replicate (gains m k).length 0)).map num)) c12 c13 .no) ⟨.no, .no, by rw [e0]; rfl⟩ ?_ ?_) ?_
  · rintro i d ss' hd ⟨c12, c13, rfl⟩
    rw [enD_map] at hd
    obtain ⟨p, hp, rfl, hi, hm, htk⟩ := map_get hd
    have hp1 : p.1 ∈ s := by
      obtain ⟨_, _, e⟩ := List.mem_zipIdx (x := p.1) (i := p.2) hm
      rw [e]; exact List.getElem_mem _
    have hp2 : p.2 < s.length := by
      obtain ⟨_, h2, _⟩ := List.mem_zipIdx (x := p.1) (i := p.2) hm
      omega
    refine ⟨_, _, dg_tup rfl (dgs_cons (dg_name 12 nd) (dgs_cons (dg_name 13 nd) dgs_nil)), fun B1 e1 => dss_one (ds_put (n := p.1) 11 rfl (de_at (de_var 10 rfl) (de_var 12 rfl) (by show p.2 < fd.length; rw [filledIn_len]; exact hp2)) (de_var 13 rfl) rfl (by rw [List.length_map, setS_len, List.length_replicate, gl]; exact ok.sk _ hp1) ⟨.d (.int (p.2 : Nat)), .d (.int (p.1 : Nat)), ?_⟩)⟩
    rw [htk, List.foldl_append]
    simp only [List.foldl_cons, List.foldl_nil, setS]
    rw [List.map_set]
    rfl
  · rintro ss' ⟨c12, c13, rfl⟩
    refine ⟨c12, c13, ?_⟩
    have e : (enD (s.map fun i => PyData.int (i : Nat))).length = s.zipIdx.length := by rw [enD_len]; simp
    rw [e, List.take_length]
    rfl
  · rintro ss' ⟨c12, c13, rfl⟩
    refine dss_frz (i := 11) rfl (dss_one (ds_ret (de_var 11 rfl) ?_))
    rw [eon]
    rfl
end
end Hk
end
section
set_option Elab.async false
set_option linter.all false
set_option maxRecDepth 100000
set_option maxHeartbeats 4000000
namespace Hk
open PySem PySem.Spec PyProof.Rows L2
open Evl (Ex)
open Hq
structure ExOk (m : Market) (k : Nat) : Prop where
  kl : (kids m k).length ≤ 7
  tri : ∀ s ∈ partsOf (List.range (kids m k).length), ∀ more ∈ partsOf (sometimes m k), 0 < s.length → s.length ≤ 1 + (always m k).length + more.length →
    OnlyOk m k s (always m k ++ more) ∧ ∀ x, onlyNumbers m k s (always m k ++ more) = some x → x.length < 1000 ∧ SumOk x ∧ MeansOk m k x
def R_extreme (ds : List PyData) (x : PyData) : Prop := ∃ names m k, ds = [marketD names m, .int (k : Nat)] ∧ WfM names m ∧ k < m.nodes.length ∧ ExOk m k ∧ x = numLL (extremes m k)
theorem putIn_len (ls : List (List Rat)) (y : List Rat) : (Hq.putIn ls y).length ≤ ls.length + 1 := by
  unfold Hq.putIn
  split
  · omega
  · have := List.length_filter_le (fun o => comesBefore o y) ls
    simp only [List.length_append, List.length_drop, List.length_singleton]
    omega
theorem putIn_mem {ls : List (List Rat)} {y z : List Rat} (h : z ∈ Hq.putIn ls y) : z ∈ ls ∨ z = y := by
  unfold Hq.putIn at h
  split at h
  · exact .inl h
  · simp only [List.mem_append, List.mem_singleton] at h
    rcases h with (h | h) | h
    · exact .inl (List.mem_filter.mp h).1
    · exact .inr h
    · exact .inl (List.mem_of_mem_drop h)
def GoodL (F : List (List Rat)) (n : Nat) : Prop := F.length ≤ n ∧ ∀ l ∈ F, AllSm 4400 l
def innerF (m : Market) (k : Nat) (F : List (List Rat)) (s : List Nat) : List (List Rat) := (partsOf (sometimes m k)).foldl (fun F more => tryPut m k F s more) F
theorem extremes_eq (m : Market) (k : Nat) : extremes m k = (partsOf (List.range (kids m k).length)).foldl (innerF m k) [] := rfl
theorem tryPut_eq {m : Market} {k : Nat} {F : List (List Rat)} {s more : List Nat} {x : List Rat} (h0 : 0 < s.length) (h1 : s.length ≤ 1 + (always m k).length + more.length) (h2 : onlyNumbers m k s (always m k ++ more) = some x) (h3 : isWeights m k x = true) : tryPut m k F s more = Hq.putIn F x := by
  unfold tryPut
  rw [if_pos (by simp [h0, h1]), h2]
  simp [h3]
theorem tryPut_no {m : Market} {k : Nat} {F : List (List Rat)} {s more : List Nat} (h : ¬ (0 < s.length ∧ s.length ≤ 1 + (always m k).length + more.length) ∨ ∀ x, onlyNumbers m k s (always m k ++ more) = some x → isWeights m k x = false) : tryPut m k F s more = F := by
  unfold tryPut
  split
  · rename_i hc
    rcases h with h | h
    · exact absurd (by simpa using hc) h
    · cases e : onlyNumbers m k s (always m k ++ more) with
      | none => rfl
      | some x => simp [h x e]
  · rfl
theorem sometimes_len {names : List PyData} {m : Market} {k : Nat} (W : WfM names m) (hk : k < m.nodes.length) : (sometimes m k).length ≤ 4 ∧ (always m k).length ≤ 4 := by
  have h1 := (W.at_ hk).rules
  have h2 := W.many
  unfold sometimes always
  rw [List.length_map, List.length_map]
  have a := List.length_filter_le (fun p : Rule × Nat => decide (p.1 = .long) || decide (p.1 = .short)) (nodeAt m k).rules.zipIdx
  have b := List.length_filter_le (fun p : Rule × Nat => decide (p.1 = .any)) (nodeAt m k).rules.zipIdx
  rw [List.length_zipIdx] at a b
  omega
theorem partsOf_len (t : List Nat) : (partsOf t).length = 2 ^ t.length := by rw [partsOf_eq, partStep_len]; simp
theorem partsOf_sub {t p : List Nat} (h : p ∈ partsOf t) : p.length ≤ t.length := by
  rw [partsOf_eq] at h
  have := part_len t [[]] 0 (fun q hq => by simp at hq; rw [hq]; exact Nat.le_refl _) p h
  omega
section
variable {P : Program} {w : World} {K : PySem.W.Frag} {mg : Str → Option Value} {base : Heap}
theorem sc_extreme_weights : FnScope ["market", "node", "many", "rules", "always", "sometimes", "found", "some", "more", "numbers", "asset", "rule"] ["market", "node"] (defScope st_extreme_weights) := ⟨rfl, rfl, rfl, by decide +kernel, rfl, by decide +kernel, by decide +kernel⟩
theorem fn_extreme_weights (T : Top K mg) : FnIs P w K mg base "extreme_weights" ["market", "node"] 8 R_extreme := by
  refine mkD (d := dd_extreme_weights) T 34 rfl rfl rfl sc_extreme_weights (fun _ _ _ _ _ _ us hl => match us, hl with | [_, _], _ => rfl) (fun f cdv A outer s0 H E hr ds x hR _ => ?_)
  obtain ⟨names, m, k, rfl, W, hk, ok, rfl⟩ := hR
  have nd := sc_extreme_weights.nd
  have kl := ok.kl
  have w1 := W.at_ hk
  have hmany := W.many
  obtain ⟨sl, al⟩ := sometimes_len W hk
  have rl : (nodeAt m k).rules.zipIdx.length < 100000 := by rw [List.length_zipIdx, w1.rules]; omega
  let rD : PyData := .list ((nodeAt m k).rules.map ruleD)
  have echar : ∀ (f : Rule × Nat → Bool), (((nodeAt m k).rules.zipIdx.filter f).map fun p => PyData.int (p.2 : Nat)) = (((nodeAt m k).rules.zipIdx.filter f).map (·.2)).map fun i => PyData.int (i : Nat) := fun f => by rw [List.map_map]; rfl
  refine dss_seq (ds_set 2 nd (d := .int ((kids m k).length : Nat)) (de_is (de_lenL (T.free _ (by decide)) (de_call (fn_children T) (hr.mono (by decide)) (da_cons (de_var 0 rfl) (da_cons (de_var 1 rfl) da_nil)) ⟨_, _, _, rfl, W, rfl⟩)) (by rw [List.length_map])) rfl) ?_
  refine dss_seq (ds_set 3 nd (de_rules (de_node (de_nodes (de_var 0 rfl)) (de_var 1 rfl) hk)) rfl) ?_
  refine dss_seq (ds_setC 4 rfl nd (dc [("asset", 10), ("rule", 11)] (nodeAt m k).rules.zipIdx (fun p => .tuple [.int (p.2 : Nat), ruleD p.1]) (fun p => decide (p.1 = .any)) (fun p => .int (p.2 : Nat)) (fun p => [.d (marketD names m), .d (.int (k : Nat)), .d (.int ((kids m k).length : Nat)), .d rD, .no, .no, .no, .no, .no, .no, .d (.int (p.2 : Nat)), .d (ruleD p.1)])
    (by rw [← enD_map]; exact di_enum (T.free _ (by decide)) (de_var 3 rfl)) rl rfl (fun u hu s H C cl fp => ⟨_, (by decide), dg_tup rfl (dgs_cons (dg_name 10 nd) (dgs_cons (dg_name 11 nd) dgs_nil)), fun B1 e1 => ⟨dt_is (dt_cmp cmp_eqS (de_var 11 rfl) de_str) (rule_any u.1), fun _ => de_var 10 rfl⟩⟩)) rfl rfl) (dss_frz (i := 4) rfl ?_)
  rw [echar]
  refine dss_seq (ds_setC 5 rfl nd (dc [("asset", 10), ("rule", 11)] (nodeAt m k).rules.zipIdx (fun p => .tuple [.int (p.2 : Nat), ruleD p.1]) (fun p => decide (p.1 = .long) || decide (p.1 = .short)) (fun p => .int (p.2 : Nat)) (fun p => [.d (marketD names m), .d (.int (k : Nat)), .d (.int ((kids m k).length : Nat)), .d rD, .d (intsD (always m k)), .no, .no, .no, .no, .no, .d (.int (p.2 : Nat)), .d (ruleD p.1)])
    (by rw [← enD_map]; exact di_enum (T.free _ (by decide)) (de_var 3 rfl)) rl rfl (fun u hu s H C cl fp => ⟨_, (by decide), dg_tup rfl (dgs_cons (dg_name 10 nd) (dgs_cons (dg_name 11 nd) dgs_nil)), fun B1 e1 => ⟨dt_is (dt_cmp (cmp_inT ["long", "short"]) (de_var 11 rfl) (de_tup (da_cons de_str (da_cons de_str da_nil)))) ?_, fun _ => de_var 10 rfl⟩⟩)) rfl rfl) (dss_frz (i := 5) rfl ?_)
  · cases u.1 <;> decide +kernel
  rw [echar]
  refine dss_seq (ds_setL 6 nd (dl_lst da_nil) rfl) (dss_frz (i := 6) rfl ?_)
  let st : List (List Rat) → SD → SD → SD → List SD := fun F c7 c8 c9 => [.d (marketD names m), .d (.int (k : Nat)), .d (.int ((kids m k).length : Nat)), .d rD, .d (intsD (always m k)), .d (intsD (sometimes m k)), .d (numLL F), c7, c8, c9, .no, .no]
  let ps := partsOf (List.range (kids m k).length)
  let qs := partsOf (sometimes m k)
  have pl : ps.length ≤ 128 := by
    show (partsOf _).length ≤ _
    rw [partsOf_len, List.length_range]
    exact Nat.le_trans (Nat.pow_le_pow_right (by decide) kl) (by decide)
  have ql : qs.length ≤ 16 := by
    show (partsOf _).length ≤ _
    rw [partsOf_len]
    exact Nat.le_trans (Nat.pow_le_pow_right (by decide) sl) (by decide)
  refine dss_cons (mid := fun z => ∃ c7 c8 c9, z = st (extremes m k) c7 c8 c9) (ds_for PassesOwn.never rfl (di_list (xs := ps.map intsD) (de_call (fn_parts_of T) (hr.mono (by decide)) (da_cons (de_dl (dl_listRg rfl (T.free _ (by decide)) (T.free _ (by decide)) (de_var 2 rfl) (by omega) (by omega))) da_nil) ⟨List.range (kids m k).length, by rw [Int.toNat_natCast]; rfl, by rw [List.length_range]; omega, rfl⟩))
    (fun i z => (∃ c7 c8 c9, z = st ((ps.take i).foldl (innerF m k) []) c7 c8 c9) ∧ GoodL ((ps.take i).foldl (innerF m k) []) (16 * i)) ⟨⟨.no, .no, .no, rfl⟩, ⟨Nat.le_refl _, fun l hl => nomatch hl⟩⟩ ?_ ?_) ?_
  · rintro i d ss' hd ⟨⟨c7, c8, c9, rfl⟩, gd⟩
    obtain ⟨s, hs, rfl, hi, hm, htk⟩ := map_get hd
    let F0 := (ps.take i).foldl (innerF m k) []
    have sle : s.length ≤ 7 := by have := partsOf_sub hm; rw [List.length_range] at this; omega
    refine ⟨_, _, dg_name 7 nd, fun B1 e1 => dss_one (ds_for PassesOwn.never rfl (di_list (xs := qs.map intsD) (de_call (fn_parts_of T) (hr.mono (by decide)) (da_cons (de_var 5 rfl) da_nil) ⟨sometimes m k, rfl, by omega, rfl⟩))
      (fun j z => (∃ c8 c9, z = st ((qs.take j).foldl (fun F more => tryPut m k F s more) F0) (.d (intsD s)) c8 c9) ∧ GoodL ((qs.take j).foldl (fun F more => tryPut m k F s more) F0) (16 * i + j)) ⟨⟨c8, c9, rfl⟩, gd⟩ ?_ ?_)⟩
    · rintro j d ss' hd ⟨⟨c8, c9, rfl⟩, gd⟩
      obtain ⟨more, hmo, rfl, hj, hmm, htj⟩ := map_get hd
      have mle : more.length ≤ 4 := by have := partsOf_sub hmm; omega
      rw [htj, List.foldl_append]
      simp only [List.foldl_cons, List.foldl_nil]
      let F := (qs.take j).foldl (fun F more => tryPut m k F s more) F0
      have gF : GoodL F (16 * i + j) := gd
      show ∃ is ss'', _ ∧ ∀ B1, Ex _ B1 → DSs _ B1 ss'' _ { nx := fun z => (∃ c8 c9, z = st (tryPut m k F s more) (.d (intsD s)) c8 c9) ∧ GoodL (tryPut m k F s more) (16 * i + (j + 1)), rt := _, bk := _, ct := _ }
      refine ⟨_, _, dg_name 8 nd, fun B1 e1 => dss_one (ds_if (t := decide (0 < s.length) && decide (s.length ≤ 1 + (always m k).length + more.length)) (dt_is (dt_chain cmp_lt cmp_le de_int (de_lenL (T.free _ (by decide)) (de_var 7 rfl)) (de_add (de_add de_int (de_lenL (T.free _ (by decide)) (de_var 4 rfl))) (de_lenL (T.free _ (by decide)) (de_var 8 rfl)))) ?_) (fun h => ?_) (fun h => dss_nil ?_))⟩
      · rw [List.length_map, List.length_map, List.length_map]
        congr 1
        · exact decide_eq_decide.mpr (by omega)
        · exact decide_eq_decide.mpr (by omega)
      · rw [Bool.and_eq_true] at h
        have h0 := of_decide_eq_true h.1
        have h1 := of_decide_eq_true h.2
        obtain ⟨oo, ow⟩ := ok.tri s hm more hmm h0 h1
        refine dss_seq (ds_set 9 nd (d := optD (onlyNumbers m k s (always m k ++ more))) (de_call (fn_only_numbers T) hr (da_cons (de_var 0 rfl) (da_cons (de_var 1 rfl) (da_cons (de_var 7 rfl) (da_cons (de_dl (dl_cat (de_var 4 rfl) (de_var 8 rfl) (Evl.sz_of (by simp only [List.length_map]; omega)))) da_nil)))) ⟨names, m, k, s, always m k ++ more, by unfold intsD; rw [List.map_append], W, hk, oo, rfl⟩) rfl) ?_
        cases e : onlyNumbers m k s (always m k ++ more) with
        | none =>
          rw [tryPut_no (.inr fun x hx => by rw [e] at hx; cases hx)]
          refine dss_one (ds_if (t := false) (dt_w (dw_and (dt_cmp cmp_notN (de_var (d := PyData.none) 9 rfl) de_non) (c' := false) (fun q => nomatch q))) (fun q => nomatch q) (fun _ => dss_nil ⟨⟨_, _, rfl⟩, Nat.le_trans gF.1 (by omega), gF.2⟩))
        | some x =>
          obtain ⟨x1, x2, x3⟩ := ow x e
          refine dss_one (ds_if (t := isWeights m k x) (dt_is (dt_w (dw_and (c' := isWeights m k x) (dt_cmp cmp_notN (de_var (d := numL x) 9 rfl) de_non) fun _ => dw_and1 (dt_val (de_callD (fn_is_weights T) (hr.mono (by decide)) (da_cons (de_var 0 rfl) (da_cons (de_var 1 rfl) (da_cons (de_var 9 rfl) da_nil))) ⟨names, m, k, x, rfl, W, hk, x1, x2, x3, rfl⟩)))) rfl) (fun hw => ?_) (fun hw => dss_nil ?_))
          · rw [tryPut_eq h0 h1 e hw]
            refine dss_one (ds_set 6 nd (d := numLL (Hq.putIn F x)) (de_call (fn_put_in T) (hr.mono (by decide)) (da_cons (de_var 6 rfl) (da_cons (de_var 9 rfl) da_nil)) ⟨F, x, rfl, gF.2, x2.1, by have := gF.1; omega, rfl⟩) ⟨⟨.d (intsD more), .d (numL x), rfl⟩, ?_, fun l hl => ?_⟩)
            · have := putIn_len F x
              have := gF.1
              omega
            · rcases putIn_mem hl with q | q
              · exact gF.2 l q
              · rw [q]; exact x2.1
          · rw [tryPut_no (.inr fun x' hx => by rw [e] at hx; cases hx; exact hw)]
            exact ⟨⟨_, _, rfl⟩, Nat.le_trans gF.1 (by omega), gF.2⟩
      · rw [tryPut_no (.inl fun q => by
          rw [decide_eq_true q.1, decide_eq_true q.2] at h; cases h)]
        exact ⟨⟨_, _, rfl⟩, Nat.le_trans gF.1 (by omega), gF.2⟩
    · rintro ss' ⟨⟨c8, c9, rfl⟩, gd⟩
      rw [List.length_map, List.take_length] at gd
      rw [List.length_map, List.take_length, htk, List.foldl_append]
      refine ⟨⟨_, _, _, rfl⟩, Nat.le_trans gd.1 (by omega), gd.2⟩
  · rintro ss' ⟨⟨c7, c8, c9, rfl⟩, gd⟩
    refine ⟨c7, c8, c9, ?_⟩
    rw [List.length_map, List.take_length]
    rfl
  · rintro ss' ⟨c7, c8, c9, rfl⟩
    exact dss_one (ds_ret (de_var 6 rfl) rfl)
end
end Hk
end
section
set_option Elab.async false
set_option linter.all false
set_option maxRecDepth 100000
set_option maxHeartbeats 4000000
namespace Hk
open PySem PySem.Spec PyProof.Rows L2
open Evl (Ex)
open Hq
def R_alone (ds : List PyData) (x : PyData) : Prop := ∃ names m a c, ds = [marketD names m, .int (a : Nat), num c] ∧ WfM names m ∧ x = numL (aloneQ m.many a c)
def R_rule_rows (ds : List PyData) (x : PyData) : Prop := ∃ names m k, ds = [marketD names m, .int (k : Nat)] ∧ WfM names m ∧ k < m.nodes.length ∧ x = rowsD (ruleRows m k)
def R_win_rows (ds : List PyData) (x : PyData) : Prop := ∃ names m k bounds, ds = [marketD names m, .int (k : Nat), numL bounds] ∧ WfM names m ∧ k < m.nodes.length ∧ AllSm 4400 bounds ∧ x = rowsD (winRows m k bounds)
def R_opposite (ds : List PyData) (x : PyData) : Prop := ∃ xs, ds = [numL xs] ∧ AllSm 4400 xs ∧ xs.length < 1000 ∧ x = numL (opposite xs)
def R_best (ds : List PyData) (x : PyData) : Prop := ∃ names m k values, ds = [marketD names m, .int (k : Nat), numL values] ∧ WfM names m ∧ k < m.nodes.length ∧ ExOk m k ∧ (∀ y ∈ extremes m k, DotOk y values) ∧ x = optD (bestOf (extremes m k) values)
structure CovOk (m : Market) (k : Nat) (values : List Rat) (wealth : Rat) : Prop where
  vl : values.length < 1000
  vs : AllSm 4400 values
  ws : Sm 4400 wealth
  gw : Sm 4400 ((nodeAt m k).g * wealth)
  bs : AllSm 4400 (values.map fun v => v - (nodeAt m k).g * wealth)
  so : SolveOk m.many (covRows m k values wealth)
def covOf (m : Market) (k : Nat) (values : List Rat) (wealth : Rat) : List Rat := solOf m.many (covRows m k values wealth)
def R_covering (ds : List PyData) (x : PyData) : Prop := ∃ names m k values wealth, ds = [marketD names m, .int (k : Nat), numL values, num wealth] ∧ WfM names m ∧ k < m.nodes.length ∧ CovOk m k values wealth ∧ x = numL (covOf m k values wealth)
def paperD (c : Rat) (ws hs : List Rat) : PyData := .tuple [num c, numL ws, numL hs]
structure CostOk (m : Market) (k : Nat) (values : List Rat) (b : List Rat) : Prop where
  ex : ExOk m k
  dot : ∀ y ∈ extremes m k, DotOk y values
  best : bestOf (extremes m k) values = some b
  g0 : (nodeAt m k).g ≠ 0
  cov : CovOk m k values (dotQ b values / (nodeAt m k).g)
def costQ (m : Market) (k : Nat) (values b : List Rat) : Rat := dotQ b values / (nodeAt m k).g
def R_cost (ds : List PyData) (x : PyData) : Prop := ∃ names m k values b, ds = [marketD names m, .int (k : Nat), numL values] ∧ WfM names m ∧ k < m.nodes.length ∧ CostOk m k values b ∧ x = paperD (costQ m k values b) b (covOf m k values (costQ m k values b))
def R_loan (ds : List PyData) (x : PyData) : Prop := ∃ names m k values b, ds = [marketD names m, .int (k : Nat), numL values] ∧ WfM names m ∧ k < m.nodes.length ∧ AllSm 4400 values ∧ values.length < 1000 ∧ CostOk m k (opposite values) b ∧ x = paperD (0 - costQ m k (opposite values) b) b (covOf m k (opposite values) (costQ m k (opposite values) b))
def bestStep (values : List Rat) (best : Option (List Rat)) (x : List Rat) : Option (List Rat) := match best with
  | none => some x
  | some b => if dotQ b values < dotQ x values then some x else some b
theorem bestOf_eq (ls : List (List Rat)) (values : List Rat) : bestOf ls values = ls.foldl (bestStep values) none := rfl
theorem best_mem (values : List Rat) : ∀ (ls : List (List Rat)) (b0 : Option (List Rat)) (b : List Rat), ls.foldl (bestStep values) b0 = some b → b ∈ ls ∨ b0 = some b
  | [], b0, b, h => .inr h
  | x :: ls, b0, b, h => by
    rw [List.foldl_cons] at h
    rcases best_mem values ls _ b h with q | q
    · exact .inl (List.mem_cons_of_mem _ q)
    · unfold bestStep at q
      split at q
      · left
        cases q
        exact List.mem_cons_self
      · split at q
        · left; cases q; exact List.mem_cons_self
        · exact .inr q
theorem gains_all {names : List PyData} {m : Market} (W : WfM names m) {k : Nat} (hk : k < m.nodes.length) : ∀ l ∈ gains m k, AllSm 4400 l ∧ l.length ≤ 4 := fun l hl => by
  obtain ⟨c, hc, rfl⟩ := List.mem_map.mp hl
  refine ⟨fun q hq => ?_, by rw [gainsIn_len]; exact W.many⟩
  obtain ⟨a, ha, rfl⟩ := List.mem_map.mp hq
  obtain ⟨s1, s2, s3, s4⟩ := gains_sm W hk (kids_lt hc) (List.mem_range.mp ha)
  exact ((s1.add s2).sub (s3.mul s4)).mono (by decide)
section
variable {P : Program} {w : World} {K : PySem.W.Frag} {mg : Str → Option Value} {base : Heap}
theorem sc_alone : FnScope ["market", "asset", "by", "place"] ["market", "asset", "by"] (defScope st_alone) := ⟨rfl, rfl, rfl, by decide +kernel, rfl, by decide +kernel, by decide +kernel⟩
theorem fn_alone (T : Top K mg) : FnIs P w K mg base "alone" ["market", "asset", "by"] 1 R_alone := by
  refine mkD (d := dd_alone) T 35 rfl rfl rfl sc_alone (fun _ _ _ _ _ _ us hl => match us, hl with | [_, _, _], _ => rfl) (fun f cdv A outer s H E hr ds x hR _ => ?_)
  obtain ⟨names, m, a, c, rfl, W, rfl⟩ := hR
  have nd := sc_alone.nd
  have hm := W.many
  refine dss_one (ds_ret (de_dl (dl_dc rfl nd (dc_map [("place", 3)] (List.range m.many) (fun i => .int (i : Nat)) (fun i => num (if i = a then c else 0)) (fun i => [.d (marketD names m), .d (.int (a : Nat)), .d (num c), .d (.int (i : Nat))])
    (by rw [← rgD_map]; exact di_rng (T.free _ (by decide)) (de_lenL (T.free _ (by decide)) (de_assets (de_var 0 rfl))) (by rw [W.nl]) (by omega)) (by rw [List.length_range]; omega) rfl (fun u hu s H C cl fp => ⟨_, (by decide), dg_name 3 nd, fun B1 e1 => ?_⟩)))) ?_)
  · have hk2 : decide ((u : Int) = (a : Int)) = decide (u = a) := decide_eq_decide.mpr (by omega)
    refine de_if (dt_is (dt_cmp cmp_eqI (de_var 3 rfl) (de_var 1 rfl)) hk2) (fun h => ?_) (fun h => ?_)
    · rw [if_pos (of_decide_eq_true h)]; exact de_var 2 rfl
    · rw [if_neg (of_decide_eq_false h)]; exact de_nought (X := Blk _ _ _ _ _ _ _) T
  · show PyData.list _ = numL _
    unfold numL aloneQ
    rw [List.map_map]
    rfl
theorem sc_rule_rows : FnScope ["market", "node", "rows", "asset", "rule"] ["market", "node"] (defScope st_rule_rows) := ⟨rfl, rfl, rfl, by decide +kernel, rfl, by decide +kernel, by decide +kernel⟩
theorem num_m1 : num (-1) = PyData.tuple [.int (-1), .int 1] := rfl
theorem ruleRow_len (n : Nat) (l : List (Rule × Nat)) : (l.flatMap (ruleRow n)).length ≤ l.length := by
  induction l with
  | nil => exact Nat.le_refl _
  | cons p l ih =>
    rw [List.flatMap_cons, List.length_append, List.length_cons]
    have : (ruleRow n p).length ≤ 1 := by unfold ruleRow; split <;> simp
    omega
theorem fn_rule_rows (T : Top K mg) : FnIs P w K mg base "rule_rows" ["market", "node"] 2 R_rule_rows := by
  refine mkD (d := dd_rule_rows) T 36 rfl rfl rfl sc_rule_rows (fun _ _ _ _ _ _ us hl => match us, hl with | [_, _], _ => rfl) (fun f cdv A outer s H E hr ds x hR _ => ?_)
  obtain ⟨names, m, k, rfl, W, hk, rfl⟩ := hR
  have nd := sc_rule_rows.nd
  have hm := W.many
  have w1 := W.at_ hk
  have zl : (nodeAt m k).rules.zipIdx.length ≤ 4 := by rw [List.length_zipIdx, w1.rules]; exact hm
  refine dss_seq (ds_setL 2 nd (dl_lst da_nil) rfl) ?_
  let rs := (nodeAt m k).rules.zipIdx
  let st : List RowQ → SD → SD → List SD := fun R c3 c4 => [.d (marketD names m), .d (.int (k : Nat)), .m (R.map rowD), c3, c4]
  refine dss_cons (mid := fun z => ∃ c3 c4, z = st (ruleRows m k) c3 c4) (ds_for PassesOwn.never rfl (di_enum (T.free _ (by decide)) (de_rules (de_node (de_nodes (de_var 0 rfl)) (de_var 1 rfl) hk))) (fun i z => ∃ c3 c4, z = st ((rs.take i).flatMap (ruleRow m.many)) c3 c4) ⟨.no, .no, rfl⟩ ?_ ?_) ?_
  · rintro i d ss' hd ⟨c3, c4, rfl⟩
    rw [enD_map] at hd
    obtain ⟨p, hp, rfl, hi, hmm, ht⟩ := map_get hd
    have lr : (((rs.take i).flatMap (ruleRow m.many)).map rowD).length < 100000 := by
      rw [List.length_map]
      have := ruleRow_len m.many (rs.take i)
      rw [List.length_take] at this
      have : rs.length ≤ 4 := zl
      omega
    rw [ht, List.flatMap_append, List.flatMap_singleton]
    obtain ⟨r, a⟩ := p
    refine ⟨_, _, dg_tup rfl (dgs_cons (dg_name 3 nd) (dgs_cons (dg_name 4 nd) dgs_nil)), fun B1 e1 => ?_⟩
    refine dss_one (ds_if (dt_is (dt_cmp cmp_eqS (de_var 4 rfl) de_str) (rule_long r)) (fun h => ?_) (fun h => dss_one (ds_if (dt_is (dt_cmp cmp_eqS (de_var 4 rfl) de_str) (rule_short r)) (fun h2 => ?_) (fun h2 => dss_one (ds_if (dt_is (dt_cmp cmp_eqS (de_var 4 rfl) de_str) (rule_none r)) (fun h3 => ?_) (fun h3 => dss_nil ?_))))))
    · have h := of_decide_eq_true h
      subst h
      exact dss_one (ds_app 2 rfl (d := rowD ⟨aloneQ m.many a (-1), false, 0⟩) (de_tup (da_cons (de_call (fn_alone T) hr (da_cons (de_var 0 rfl) (da_cons (de_var 3 rfl) (da_cons (d := num (-1)) (de_tup (da_cons (de_neg de_int) (da_cons de_int da_nil))) da_nil))) ⟨_, _, _, _, rfl, W, rfl⟩) (da_cons de_str (da_cons (de_nought T) da_nil)))) lr ⟨.d (.int (a : Nat)), .d (ruleD .long), by simp only [st, List.map_append]; rfl⟩)
    · have h := of_decide_eq_true h2
      subst h
      exact dss_one (ds_app 2 rfl (d := rowD ⟨aloneQ m.many a 1, false, 0⟩) (de_tup (da_cons (de_call (fn_alone T) hr (da_cons (de_var 0 rfl) (da_cons (de_var 3 rfl) (da_cons (de_one_ T) da_nil))) ⟨_, _, _, _, rfl, W, rfl⟩) (da_cons de_str (da_cons (de_nought T) da_nil)))) lr ⟨.d (.int (a : Nat)), .d (ruleD .short), by simp only [st, List.map_append]; rfl⟩)
    · have h := of_decide_eq_true h3
      subst h
      exact dss_one (ds_app 2 rfl (d := rowD ⟨aloneQ m.many a 1, true, 0⟩) (de_tup (da_cons (de_call (fn_alone T) hr (da_cons (de_var 0 rfl) (da_cons (de_var 3 rfl) (da_cons (de_one_ T) da_nil))) ⟨_, _, _, _, rfl, W, rfl⟩) (da_cons de_str (da_cons (de_nought T) da_nil)))) lr ⟨.d (.int (a : Nat)), .d (ruleD .none_), by simp only [st, List.map_append]; rfl⟩)
    · cases r with
      | any => exact ⟨.d (.int (a : Nat)), .d (ruleD .any), by
          show _ = st (_ ++ []) _ _
          rw [List.append_nil]; rfl⟩
      | long => exact absurd h (by decide)
      | short => exact absurd h2 (by decide)
      | none_ => exact absurd h3 (by decide)
  · rintro ss' ⟨c3, c4, rfl⟩
    refine ⟨c3, c4, ?_⟩
    have e : (enD ((nodeAt m k).rules.map ruleD)).length = rs.length := by
      show _ = (nodeAt m k).rules.zipIdx.length
      rw [enD_len]; simp
    rw [e, List.take_length]
    rfl
  · rintro ss' ⟨c3, c4, rfl⟩
    exact dss_frz (i := 2) rfl (dss_one (ds_ret (de_var 2 rfl) rfl))
theorem sc_win_rows : FnScope ["market", "node", "bounds", "rows", "line", "bound", "one"] ["market", "node", "bounds"] (defScope st_win_rows) := ⟨rfl, rfl, rfl, by decide +kernel, rfl, by decide +kernel, by decide +kernel⟩
theorem fn_win_rows (T : Top K mg) : FnIs P w K mg base "win_rows" ["market", "node", "bounds"] 5 R_win_rows := by
  refine mkD (d := dd_win_rows) T 37 rfl rfl rfl sc_win_rows (fun _ _ _ _ _ _ us hl => match us, hl with | [_, _, _], _ => rfl) (fun f cdv A outer s H E hr ds x hR _ => ?_)
  obtain ⟨names, m, k, bounds, rfl, W, hk, hb, rfl⟩ := hR
  have nd := sc_win_rows.nd
  have gl : (gains m k).length ≤ 60 := by unfold gains; rw [List.length_map]; exact Nat.le_trans (kids_len m k) W.len
  have zl : ((gains m k).zip bounds).length ≤ 60 := by rw [List.length_zip]; omega
  refine dss_seq (ds_setL 3 nd (dl_lst da_nil) rfl) ?_
  let rs := (gains m k).zip bounds
  let rowOf : List Rat × Rat → RowQ := fun p => ⟨p.1.map fun q => 0 - q, false, 0 - p.2⟩
  let st : List RowQ → SD → SD → List SD := fun R c3 c4 => [.d (marketD names m), .d (.int (k : Nat)), .d (numL bounds), .m (R.map rowD), c3, c4, .no]
  refine dss_cons (mid := fun z => ∃ c3 c4, z = st (winRows m k bounds) c3 c4) (ds_for PassesOwn.never rfl (di_zip (T.free _ (by decide)) (de_call (fn_gains T) hr (da_cons (de_var 0 rfl) (da_cons (de_var 1 rfl) da_nil)) ⟨_, _, _, rfl, W, hk, rfl⟩) (de_var 2 rfl)) (fun i z => ∃ c3 c4, z = st ((rs.take i).map rowOf) c3 c4) ⟨.no, .no, rfl⟩ ?_ ?_) ?_
  · rintro i d ss' hd ⟨c3, c4, rfl⟩
    rw [zpD_map] at hd
    obtain ⟨p, hp, rfl, hi, hmm, ht⟩ := map_get hd
    obtain ⟨l, b⟩ := p
    have hl := List.of_mem_zip hmm
    obtain ⟨g1, g2⟩ := gains_all W hk l hl.1
    refine ⟨_, _, dg_tup rfl (dgs_cons (dg_name 4 nd) (dgs_cons (dg_name 5 nd) dgs_nil)), fun B1 e1 => ?_⟩
    refine dss_one (ds_app 3 rfl (d := rowD (rowOf (l, b))) (de_is (de_tup (da_cons (de_dl (dl_dc rfl nd (dc_map [("one", 6)] l num (fun q => num (0 - q)) (fun q => [.d (marketD names m), .d (.int (k : Nat)), .d (numL bounds), .m _, .d (numL l), .d (num b), .d (num q)]) (di_list (de_var 4 rfl)) (by omega) rfl
      (fun u hu s H C cl fp => ⟨_, (by decide), dg_name 6 nd, fun B1 e1 => de_call (fn_minus T) (hr.mono (by decide)) (da_cons (de_nought (X := Blk _ _ _ _ _ _ _) T) (da_cons (de_var 6 rfl) da_nil)) ⟨_, _, rfl, Sm.zero (by decide), g1 u hu, trivial, rfl⟩⟩))))
      (da_cons de_str (da_cons (de_call (fn_minus T) (hr.mono (by decide)) (da_cons (de_nought T) (da_cons (de_var 5 rfl) da_nil)) ⟨_, _, rfl, Sm.zero (by decide), hb _ hl.2, trivial, rfl⟩) da_nil)))) ?_) ?_ ⟨.d (numL l), .d (num b), ?_⟩)
    · show PyData.tuple _ = rowD _
      simp only [rowD, rowOf, numL, List.map_map]
      rfl
    · rw [List.length_map, List.length_map, List.length_take]; omega
    · rw [ht]
      simp only [st, List.map_append]
      rfl
  · rintro ss' ⟨c3, c4, rfl⟩
    refine ⟨c3, c4, ?_⟩
    have e : (zpD ((gains m k).map numL) (bounds.map num)).length = rs.length := by
      show _ = ((gains m k).zip bounds).length
      rw [zpD_len, List.length_zip]; simp
    rw [e, List.take_length]
    rfl
  · rintro ss' ⟨c3, c4, rfl⟩
    exact dss_frz (i := 3) rfl (dss_one (ds_ret (de_var 3 rfl) rfl))
theorem sc_opposite : FnScope ["numbers", "one"] ["numbers"] (defScope st_opposite) := ⟨rfl, rfl, rfl, by decide +kernel, rfl, by decide +kernel, by decide +kernel⟩
theorem fn_opposite (T : Top K mg) : FnIs P w K mg base "opposite" ["numbers"] 3 R_opposite := by
  refine mkD (d := dd_opposite) T 38 rfl rfl rfl sc_opposite (fun _ _ _ _ _ _ us hl => match us, hl with | [_], _ => rfl) (fun f cdv A outer s H E hr ds x hR _ => ?_)
  obtain ⟨xs, rfl, h1, h2, rfl⟩ := hR
  have nd := sc_opposite.nd
  refine dss_one (ds_ret (de_dl (dl_dc rfl nd (dc_map [("one", 1)] xs num (fun q => num (0 - q)) (fun q => [.d (numL xs), .d (num q)]) (di_list (de_var 0 rfl)) (by omega) rfl
      (fun u hu s H C cl fp => ⟨_, (by decide), dg_name 1 nd, fun B1 e1 => de_call (fn_minus T) (hr.mono (by decide)) (da_cons (de_nought (X := Blk _ _ _ _ _ _ _) T) (da_cons (de_var 1 rfl) da_nil)) ⟨_, _, rfl, Sm.zero (by decide), h1 u hu, trivial, rfl⟩⟩)))) ?_)
  show PyData.list _ = numL _
  unfold numL opposite
  rw [List.map_map]
  rfl
theorem sc_best_weights : FnScope ["market", "node", "values", "best", "numbers"] ["market", "node", "values"] (defScope st_best_weights) := ⟨rfl, rfl, rfl, by decide +kernel, rfl, by decide +kernel, by decide +kernel⟩
theorem fn_best_weights (T : Top K mg) : FnIs P w K mg base "best_weights" ["market", "node", "values"] 9 R_best := by
  refine mkD (d := dd_best_weights) T 39 rfl rfl rfl sc_best_weights (fun _ _ _ _ _ _ us hl => match us, hl with | [_, _, _], _ => rfl) (fun f cdv A outer s H E hr ds x hR _ => ?_)
  obtain ⟨names, m, k, values, rfl, W, hk, eok, dok, rfl⟩ := hR
  have nd := sc_best_weights.nd
  let st : Option (List Rat) → SD → List SD := fun o c4 => [.d (marketD names m), .d (.int (k : Nat)), .d (numL values), .d (optD o), c4]
  refine dss_seq (ds_set 3 nd (d := optD none) de_non rfl) ?_
  refine dss_cons (mid := fun z => ∃ c4, z = st (bestOf (extremes m k) values) c4) (ds_for PassesOwn.never rfl (di_list (xs := (extremes m k).map numL) (de_call (fn_extreme_weights T) hr (da_cons (de_var 0 rfl) (da_cons (de_var 1 rfl) da_nil)) ⟨_, _, _, rfl, W, hk, eok, rfl⟩)) (fun i z => ∃ c4, z = st (((extremes m k).take i).foldl (bestStep values) none) c4) ⟨.no, rfl⟩ ?_ ?_) ?_
  · rintro i d ss' hd ⟨c4, rfl⟩
    obtain ⟨y, hy, rfl, hi, hm, ht⟩ := map_get hd
    rw [ht, List.foldl_append]
    simp only [List.foldl_cons, List.foldl_nil]
    have dy := dok y hm
    cases e : ((extremes m k).take i).foldl (bestStep values) none with
    | none => exact ⟨_, _, dg_name 4 nd, fun B1 e1 => dss_one (ds_if (t := true) (dt_w (dw_or (c' := false) (dt_cmp cmp_isN (de_var (d := PyData.none) 3 rfl) de_non) (fun q => nomatch q))) (fun _ => dss_one (ds_set 3 nd (d := numL y) (de_var 4 rfl) ⟨.d (numL y), rfl⟩)) (fun q => nomatch q))⟩
    | some b =>
      have hb : b ∈ extremes m k := by
        rcases best_mem values _ _ _ e with q | q
        · exact List.mem_of_mem_take q
        · cases q
      have db := dok b hb
      refine ⟨_, _, dg_name 4 nd, fun B1 e1 => dss_one (ds_if (t := decide (dotQ b values < dotQ y values)) (dt_is (dt_w (dw_or (dt_cmp cmp_isN (de_var (d := numL b) 3 rfl) de_non) fun _ => dw_or1 (dt_cmp cmp_gt (de_call (fn_compare T) (hr.mono (by decide)) (da_cons (de_call (fn_dot T) (hr.mono (by decide)) (da_cons (de_var 4 rfl) (da_cons (de_var 2 rfl) da_nil)) ⟨_, _, rfl, dy.1, dy.2.1, dy.2.2.1, dy.2.2.2, rfl⟩)
        (da_cons (de_call (fn_dot T) (hr.mono (by decide)) (da_cons (de_var (d := numL b) 3 rfl) (da_cons (de_var 2 rfl) da_nil)) ⟨_, _, rfl, db.1, db.2.1, db.2.2.1, db.2.2.2, rfl⟩) da_nil)) ⟨_, _, rfl, dy.sm, db.sm, trivial, rfl⟩) de_int))) ?_) (fun h => dss_one (ds_set 3 nd (d := numL y) (de_var 4 rfl) ⟨.d (numL y), ?_⟩)) (fun h => dss_nil ⟨.d (numL y), ?_⟩))⟩
      · show (false || _) = _
        rw [Bool.false_or, cmp_pos]
      · show _ = st (bestStep values (some b) y) _
        unfold bestStep
        simp only []
        rw [if_pos (of_decide_eq_true h)]
        rfl
      · show _ = st (bestStep values (some b) y) _
        unfold bestStep
        simp only []
        rw [if_neg (of_decide_eq_false h)]
        rfl
  · rintro ss' ⟨c4, rfl⟩
    refine ⟨c4, ?_⟩
    rw [List.length_map, List.take_length, bestOf_eq]
  · rintro ss' ⟨c4, rfl⟩
    exact dss_one (ds_ret (de_var 3 rfl) rfl)
theorem sc_covering : FnScope ["market", "node", "values", "wealth", "growth", "bounds", "rows", "value"] ["market", "node", "values", "wealth"] (defScope st_covering) := ⟨rfl, rfl, rfl, by decide +kernel, rfl, by decide +kernel, by decide +kernel⟩
theorem fn_covering (T : Top K mg) : FnIs P w K mg base "covering" ["market", "node", "values", "wealth"] 8 R_covering := by
  refine mkD (d := dd_covering) T 40 rfl rfl rfl sc_covering (fun _ _ _ _ _ _ us hl => match us, hl with | [_, _, _, _], _ => rfl) (fun f cdv A outer s H E hr ds x hR _ => ?_)
  obtain ⟨names, m, k, values, wealth, rfl, W, hk, ok, rfl⟩ := hR
  have nd := sc_covering.nd
  have w1 := W.at_ hk
  have hvl := ok.vl
  have hsv := ok.so.rl
  refine dss_seq (ds_set 4 nd (de_growth (de_node (de_nodes (de_var 0 rfl)) (de_var 1 rfl) hk)) rfl) ?_
  let bounds : List Rat := values.map fun v => v - (nodeAt m k).g * wealth
  refine dss_seq (ds_setC 5 rfl nd (dc_map [("value", 7)] values num (fun v => num (v - (nodeAt m k).g * wealth)) (fun v => [.d (marketD names m), .d (.int (k : Nat)), .d (numL values), .d (num wealth), .d (num (nodeAt m k).g), .no, .no, .d (num v)]) (di_list (de_var 2 rfl)) (by omega) rfl
    (fun u hu s H C cl fp => ⟨_, (by decide), dg_name 7 nd, fun B1 e1 => de_call (fn_minus T) (hr.mono (by decide)) (da_cons (de_var 7 rfl) (da_cons (de_call (fn_times T) (hr.mono (by decide)) (da_cons (de_var 4 rfl) (da_cons (de_var 3 rfl) da_nil)) ⟨_, _, rfl, w1.g.mono (by decide), ok.ws, trivial, rfl⟩) da_nil)) ⟨_, _, rfl, ok.vs u hu, ok.gw, trivial, rfl⟩⟩)) rfl rfl) (dss_frz (i := 5) rfl ?_)
  have eb : values.map (fun v => num (v - (nodeAt m k).g * wealth)) = bounds.map num := by
    simp only [bounds, List.map_map]; rfl
  rw [eb]
  have el : (ruleRows m k).length + (winRows m k bounds).length < 1000 := by
    have : (covRows m k values wealth).length < 1000 := hsv
    unfold covRows at this
    rwa [List.length_append] at this
  refine dss_seq (ds_setL 6 nd (dl_cat (de_call (fn_rule_rows T) (hr.mono (by decide)) (da_cons (de_var 0 rfl) (da_cons (de_var 1 rfl) da_nil)) ⟨_, _, _, rfl, W, hk, rfl⟩) (de_call (fn_win_rows T) (hr.mono (by decide)) (da_cons (de_var 0 rfl) (da_cons (de_var 1 rfl) (da_cons (d := numL bounds) (de_var 5 rfl) da_nil))) ⟨_, _, _, bounds, rfl, W, hk, ok.bs, rfl⟩) (Evl.sz_of (by rw [List.length_map, List.length_map]; omega))) rfl) (dss_frz (i := 6) rfl ?_)
  rw [← List.map_append]
  refine dss_one (ds_ret (de_ixT (de_call (d := .tuple [.str "solution", numL (covOf m k values wealth)]) (fn_solve_system T) (hr.mono (by decide)) (da_cons (de_lenL (T.free _ (by decide)) (de_assets (de_var 0 rfl))) (da_cons (de_var 6 rfl) da_nil)) ⟨m.many, covRows m k values wealth, by rw [W.nl]; rfl, ok.so, rfl⟩) de_int rfl) rfl)
theorem sc_cost_of : FnScope ["market", "node", "values", "numbers", "cost"] ["market", "node", "values"] (defScope st_cost_of) := ⟨rfl, rfl, rfl, by decide +kernel, rfl, by decide +kernel, by decide +kernel⟩
theorem fn_cost_of (T : Top K mg) : FnIs P w K mg base "cost_of" ["market", "node", "values"] 10 R_cost := by
  refine mkD (d := dd_cost_of) T 41 rfl rfl rfl sc_cost_of (fun _ _ _ _ _ _ us hl => match us, hl with | [_, _, _], _ => rfl) (fun f cdv A outer s H E hr ds x hR _ => ?_)
  obtain ⟨names, m, k, values, b, rfl, W, hk, ok, rfl⟩ := hR
  have nd := sc_cost_of.nd
  have w1 := W.at_ hk
  have hb : b ∈ extremes m k := by
    have e := ok.best
    rw [bestOf_eq] at e
    rcases best_mem values _ _ _ e with q | q
    · exact q
    · cases q
  have db := ok.dot b hb
  refine dss_seq (ds_set 3 nd (d := numL b) (de_call (fn_best_weights T) hr (da_cons (de_var 0 rfl) (da_cons (de_var 1 rfl) (da_cons (de_var 2 rfl) da_nil))) ⟨_, _, _, _, rfl, W, hk, ok.ex, ok.dot, by rw [ok.best]; rfl⟩) rfl) ?_
  refine dss_seq (ds_if (t := false) (dt_cmp cmp_isN (de_var (d := numL b) 3 rfl) de_non) (fun q => nomatch q) (fun _ => dss_nil rfl)) ?_
  refine dss_seq (ds_set 4 nd (d := num (costQ m k values b)) (de_call (fn_divided T) (hr.mono (by decide)) (da_cons (de_call (fn_dot T) (hr.mono (by decide)) (da_cons (de_var 3 rfl) (da_cons (de_var 2 rfl) da_nil)) ⟨_, _, rfl, db.1, db.2.1, db.2.2.1, db.2.2.2, rfl⟩) (da_cons (de_growth (de_node (de_nodes (de_var 0 rfl)) (de_var 1 rfl) hk)) da_nil)) ⟨_, _, rfl, db.sm, w1.g.mono (by decide), ok.g0, rfl⟩) rfl) ?_
  exact dss_one (ds_ret (de_tup (da_cons (de_var 4 rfl) (da_cons (de_var 3 rfl) (da_cons (de_call (fn_covering T) (hr.mono (by decide)) (da_cons (de_var 0 rfl) (da_cons (de_var 1 rfl) (da_cons (de_var 2 rfl) (da_cons (de_var 4 rfl) da_nil)))) ⟨_, _, _, _, _, rfl, W, hk, ok.cov, rfl⟩) da_nil)))) rfl)
theorem sc_loan_on : FnScope ["market", "node", "values", "cost", "numbers", "holdings"] ["market", "node", "values"] (defScope st_loan_on) := ⟨rfl, rfl, rfl, by decide +kernel, rfl, by decide +kernel, by decide +kernel⟩
theorem fn_loan_on (T : Top K mg) : FnIs P w K mg base "loan_on" ["market", "node", "values"] 11 R_loan := by
  refine mkD (d := dd_loan_on) T 42 rfl rfl rfl sc_loan_on (fun _ _ _ _ _ _ us hl => match us, hl with | [_, _, _], _ => rfl) (fun f cdv A outer s H E hr ds x hR _ => ?_)
  obtain ⟨names, m, k, values, b, rfl, W, hk, vs, vl, ok, rfl⟩ := hR
  have nd := sc_loan_on.nd
  refine dss_seq (ds_asg (de_call (fn_cost_of T) hr (da_cons (de_var 0 rfl) (da_cons (de_var 1 rfl) (da_cons (de_call (fn_opposite T) (hr.mono (by decide)) (da_cons (de_var 2 rfl) da_nil) ⟨_, rfl, vs, vl, rfl⟩) da_nil))) ⟨_, _, _, _, b, rfl, W, hk, ok, rfl⟩) (dg_tup rfl (dgs_cons (dg_name 3 nd) (dgs_cons (dg_name 4 nd) (dgs_cons (dg_name 5 nd) dgs_nil)))) rfl) ?_
  exact dss_one (ds_ret (de_tup (da_cons (de_call (fn_minus T) (hr.mono (by decide)) (da_cons (de_nought T) (da_cons (de_var 3 rfl) da_nil)) ⟨_, _, rfl, Sm.zero (by decide), ok.cov.ws, trivial, rfl⟩) (da_cons (de_var 4 rfl) (da_cons (de_var 5 rfl) da_nil)))) rfl)
end
end Hk
end
section
set_option Elab.async false
set_option linter.all false
set_option maxRecDepth 100000
set_option maxHeartbeats 4000000
/-! ### the law's numbers -/
namespace Hk
open PySem PySem.Spec PyProof.Rows L2
open Evl (Ex)
open Hq
/-! drawn values -/
def drawStep (rests : List Int) (k : Nat) : List Int × Int :=
  if rests.length = 0 then (rests, 0) else
    let at_ := k % rests.length
    let c := rests.getD at_ 0
    if 10 ^ 18 ≤ c then (rests.set at_ (c / 1000), c % 1000)
    else (rests, ((((c * 48271 + k * 69621 + 11) % 2147483647) * 16807 + at_) % 2147483629 / 7) % 1000)
def drawState (ns : List Int) : Nat → List Int × List Int
  | 0 => (ns, [])
  | k + 1 => ((drawStep (drawState ns k).1 k).1, (drawState ns k).2 ++ [(drawStep (drawState ns k).1 k).2])
def drawsOf (ns : List Int) (c : Nat) : List Int := (drawState ns c).2
theorem drawStep_rng (rests : List Int) (k : Nat) : 0 ≤ (drawStep rests k).2 ∧ (drawStep rests k).2 < 1000 := by
  unfold drawStep
  simp only []
  split
  · exact ⟨Int.le_refl 0, (by decide : (0 : Int) < 1000)⟩
  · split
    · exact ⟨Int.emod_nonneg _ (by decide), Int.emod_lt_of_pos _ (by decide)⟩
    · exact ⟨Int.emod_nonneg _ (by decide), Int.emod_lt_of_pos _ (by decide)⟩
theorem drawsOf_len (ns : List Int) : ∀ c, (drawsOf ns c).length = c
  | 0 => rfl
  | c + 1 => by
    have := drawsOf_len ns c
    unfold drawsOf at this ⊢
    simp [drawState, this]
theorem drawsOf_rng (ns : List Int) : ∀ c, ∀ d ∈ drawsOf ns c, 0 ≤ d ∧ d < 1000
  | 0, d, h => by simp [drawsOf, drawState] at h
  | c + 1, d, h => by
    have h' : d ∈ (drawState ns c).2 ++ [(drawStep (drawState ns c).1 c).2] := h
    rcases List.mem_append.mp h' with q | q
    · exact drawsOf_rng ns c d q
    · have e : d = (drawStep (drawState ns c).1 c).2 := by simpa using q
      rw [e]; exact drawStep_rng _ _
def zsD (xs : List Int) : PyData := .list (xs.map .int)
def R_draws (ds : List PyData) (x : PyData) : Prop := ∃ ns c, ds = [scrD ns, .int (c : Nat)] ∧ c ≤ 1000 ∧ ns.length < 1000 ∧ x = zsD (drawsOf ns c)
theorem getD_at {α : Type} {xs : List α} {k : Nat} {z : α} (h : k < xs.length) : xs[k]? = some (xs.getD k z) := by
  rw [List.getD_eq_getElem?_getD, List.getElem?_eq_getElem h]; rfl
section
variable {P : Program} {w : World} {K : PySem.W.Frag} {mg : Str → Option Value} {base : Heap}
theorem sc_L_draws : FnScope ["_law_script", "_law_count", "_law_rests", "_law_draws_here", "_law_k", "_law_value", "_law_at", "_law_mixed", "_law_cell"] ["_law_script", "_law_count"] (defScope st_L_draws) := ⟨rfl, rfl, rfl, by decide +kernel, rfl, by decide +kernel, by decide +kernel⟩
theorem fn_L_draws (T : Top K mg) : FnIs P w K mg base "_law_draws" ["_law_script", "_law_count"] 1 R_draws := by
  refine mkD (d := dd_L_draws) T 43 rfl rfl rfl sc_L_draws (fun _ _ _ _ _ _ us hl => match us, hl with | [_, _], _ => rfl) (fun f cdv A outer s H E hr ds x hR _ => ?_)
  obtain ⟨ns, c, rfl, hc, hns, rfl⟩ := hR
  have nd := sc_L_draws.nd
  refine dss_seq (ds_setC 2 rfl nd (dc_map [("_law_cell", 8)] ns PyData.int PyData.int (fun n => [.d (scrD ns), .d (.int (c : Nat)), .no, .no, .no, .no, .no, .no, .d (.int n)]) (di_scr (de_var 0 rfl)) (by omega) rfl
    (fun u hu s H C cl fp => ⟨_, (by decide), dg_name 8 nd, fun B1 e1 => de_var 8 rfl⟩)) rfl rfl) ?_
  refine dss_seq (ds_setL 3 nd (dl_lst da_nil) rfl) ?_
  let st : List Int → List Int → SD → SD → SD → SD → List SD := fun rs out c4 c5 c6 c7 => [.d (scrD ns), .d (.int (c : Nat)), .m (rs.map .int), .m (out.map .int), c4, c5, c6, c7, .no]
  refine dss_cons (mid := fun z => ∃ c4 c5 c6 c7, z = st (drawState ns c).1 (drawState ns c).2 c4 c5 c6 c7) (ds_for PassesOwn.never rfl (di_rng (m := c) (T.free _ (by decide)) (de_var 1 rfl) rfl (by omega)) (fun i z => ∃ c4 c5 c6 c7, z = st (drawState ns i).1 (drawState ns i).2 c4 c5 c6 c7) ⟨.no, .no, .no, .no, rfl⟩ ?_ ?_) ?_
  · rintro i d ss' hd ⟨c4, c5, c6, c7, rfl⟩
    obtain ⟨rfl, hi⟩ := rgD_get hd
    rw [Int.zero_add]
    have ol : (drawState ns i).2.length = i := drawsOf_len ns i
    let rs := (drawState ns i).1
    let out := (drawState ns i).2
    have ol2 : out.length = i := ol
    refine ⟨_, _, dg_name 4 nd, fun B1 e1 => dss_seq (ds_set 5 nd de_int rfl) ?_⟩
    refine dss_cons (mid := fun z => ∃ c6 c7, z = st (drawStep rs i).1 out (.d (.int (i : Nat))) (.d (.int (drawStep rs i).2)) c6 c7) (ds_if (t := decide (0 < rs.length)) (dt_is (dt_cmp cmp_gt (de_lenM 2 rfl (T.free _ (by decide))) de_int) (by rw [List.length_map]; exact decide_eq_decide.mpr (by show (0 : Int) < (rs.length : Int) ↔ _; omega))) (fun h => ?_) (fun h => dss_nil ?_)) ?_
    · have h0 := of_decide_eq_true h
      have hat : i % rs.length < rs.length := Nat.mod_lt _ h0
      refine dss_seq (ds_set 6 nd (d := .int ((i % rs.length : Nat) : Int)) (de_is (de_mod (de_intI (T.free _ (by decide)) (de_var 4 rfl)) (de_lenM 2 rfl (T.free _ (by decide))) (by rw [List.length_map]; show (0 : Int) < (rs.length : Int); omega)) (by rw [List.length_map]; congr 1)) rfl) ?_
      have ix : atI (rs.map PyData.int) ((i % rs.length : Nat) : Int) = some (.int (rs.getD (i % rs.length) 0)) := atI_map PyData.int (getD_at hat)
      have hne : ¬ rs.length = 0 := by omega
      refine dss_one (ds_if (t := decide (10 ^ 18 ≤ rs.getD (i % rs.length) 0)) (dt_cmp cmp_ge (de_ixM 2 rfl (de_var 6 rfl) ix) (de_pow de_int de_int ⟨by decide, by decide, by decide⟩)) (fun h2 => ?_) (fun h2 => ?_))
      · refine dss_seq (ds_set 5 nd (de_mod (de_intI (T.free _ (by decide)) (de_ixM 2 rfl (de_var 6 rfl) ix)) de_int (by decide)) rfl) ?_
        refine dss_one (ds_put (n := i % rs.length) 2 rfl (de_fdiv (de_ixM 2 rfl (de_var 6 rfl) ix) de_int ⟨by decide, by decide⟩) (de_var 6 rfl) rfl (by rw [List.length_map]; exact hat) ⟨.d (.int ((i % rs.length : Nat) : Int)), c7, ?_⟩)
        unfold drawStep
        simp only []
        rw [if_neg hne, if_pos (of_decide_eq_true h2)]
        simp only [st]
        rw [List.map_set]
        rfl
      · refine dss_seq (ds_set 7 nd (de_mod (de_intI (T.free _ (by decide)) (de_add (de_add (de_mul64 (de_ixM 2 rfl (de_var 6 rfl) ix) de_int (.inr ⟨by decide, by decide⟩)) (de_mul64 (de_var 4 rfl) de_int (.inr ⟨by decide, by decide⟩))) de_int)) de_int (by decide)) rfl) ?_
        refine dss_seq (ds_set 7 nd (de_mod (de_intI (T.free _ (by decide)) (de_add (de_mul64 (de_var 7 rfl) de_int (.inr ⟨by decide, by decide⟩)) (de_var 6 rfl))) de_int (by decide)) rfl) ?_
        refine dss_one (ds_set 5 nd (de_mod (de_intI (T.free _ (by decide)) (de_fdiv (de_var 7 rfl) de_int ⟨by decide, by decide⟩)) de_int (by decide)) ⟨.d (.int ((i % rs.length : Nat) : Int)), .d (.int ((((rs.getD (i % rs.length) 0) * 48271 + i * 69621 + 11) % 2147483647 * 16807 + ((i % rs.length : Nat) : Int)) % 2147483629)), ?_⟩)
        unfold drawStep
        simp only []
        rw [if_neg hne, if_neg (of_decide_eq_false h2)]
        rfl
    · have h0 : rs.length = 0 := by
        have := of_decide_eq_false h
        omega
      refine ⟨c6, c7, ?_⟩
      unfold drawStep
      rw [if_pos h0]
      rfl
    · rintro ss' ⟨c6, c7, rfl⟩
      refine dss_one (ds_app 3 rfl (de_var 5 rfl) (by rw [List.length_map]; omega) ⟨.d (.int (i : Nat)), .d (.int (drawStep rs i).2), c6, c7, ?_⟩)
      simp only [st, drawState, List.map_append]
      rfl
  · rintro ss' ⟨c4, c5, c6, c7, rfl⟩
    rw [rgD_len]
    exact ⟨c4, c5, c6, c7, rfl⟩
  · rintro ss' ⟨c4, c5, c6, c7, rfl⟩
    exact dss_frz (i := 3) rfl (dss_one (ds_ret (de_var 3 rfl) rfl))
end
end Hk
end
section
set_option Elab.async false
set_option linter.all false
set_option maxRecDepth 100000
set_option maxHeartbeats 4000000
set_option exponentiation.threshold 100000
namespace Hk
open PySem PySem.Spec PyProof.Rows L2
open Evl (Ex)
open Hq
/-! Euclid -/
def EuOk (i x y : Nat) : Prop := (i = 0 ∧ x * y < 2 ^ 18000) ∨ (0 < i ∧ y < x ∧ x * y * 2 ^ (i - 1) < 2 ^ 18000)
theorem eu_step {i x y : Nat} (h : EuOk i x y) (hy : 0 < y) : EuOk (i + 1) y (x % y) := by
  have hr : x % y < y := Nat.mod_lt _ hy
  right
  rw [Nat.add_sub_cancel]
  refine ⟨by omega, hr, ?_⟩
  rcases h with ⟨rfl, h⟩ | ⟨h0, h1, h2⟩
  · rw [Nat.pow_zero, Nat.mul_one]
    have : y * (x % y) ≤ y * x := Nat.mul_le_mul_left _ (Nat.mod_le _ _)
    rw [Nat.mul_comm y x] at this
    omega
  · have e1 : x = y * (x / y) + x % y := (Nat.div_add_mod x y).symm
    have e2 : 1 ≤ x / y := Nat.div_pos (by omega) hy
    have e3 : y ≤ y * (x / y) := Nat.le_mul_of_pos_right _ e2
    have e4 : 2 * (x % y) ≤ x := by omega
    have e5 : y * (x % y) * 2 ≤ x * y := by
      rw [Nat.mul_assoc, Nat.mul_comm (x % y) 2, Nat.mul_comm x y]
      exact Nat.mul_le_mul_left _ e4
    have e6 : 2 ^ i = 2 * 2 ^ (i - 1) := by
      rw [← Nat.pow_succ']; congr 1; omega
    rw [e6, ← Nat.mul_assoc]
    exact Nat.lt_of_le_of_lt (Nat.mul_le_mul_right _ e5) h2
theorem eu_end {x y : Nat} (h : EuOk 20000 x y) : y = 0 := by
  rcases h with ⟨h0, _⟩ | ⟨_, h1, h2⟩
  · cases h0
  · rcases Nat.eq_zero_or_pos y with q | q
    · exact q
    · exfalso
      have h3 : 1 ≤ x * y := Nat.mul_pos (by omega) q
      have h4 : 2 ^ 18000 ≤ 2 ^ (20000 - 1) := Nat.pow_le_pow_right (by decide) (by decide)
      have h5 : 1 * 2 ^ (20000 - 1) ≤ x * y * 2 ^ (20000 - 1) := Nat.mul_le_mul_right _ h3
      rw [Nat.one_mul] at h5
      exact absurd (Nat.lt_of_le_of_lt (Nat.le_trans h4 h5) h2) (Nat.lt_irrefl _)
def R_Lgcd (ds : List PyData) (x : PyData) : Prop := ∃ a b : Int, ds = [.int a, .int b] ∧ a.natAbs < 2 ^ 9000 ∧ b.natAbs < 2 ^ 9000 ∧ x = .int (Nat.gcd a.natAbs b.natAbs : Nat)
def R_Lnumber (ds : List PyData) (x : PyData) : Prop := ∃ n d : Int, ds = [.int n, .int d] ∧ d ≠ 0 ∧ n.natAbs < 2 ^ 9000 ∧ d.natAbs < 2 ^ 9000 ∧ x = num (Rat.divInt n d)
def R_Lsum (ds : List PyData) (x : PyData) : Prop := ∃ xs : List Rat, ds = [numL xs] ∧ SumOk xs ∧ x = num (sumQ xs)
def R_Ldot (ds : List PyData) (x : PyData) : Prop := ∃ a b : List Rat, ds = [numL a, numL b] ∧ DotOk a b ∧ a.length = b.length ∧ x = num (dotQ a b)
theorem abs_int (a : Int) : (if a < 0 then -a else a) = (a.natAbs : Int) := by split <;> omega
theorem _root_.Hq.Sm.nlt {q r : Rat} (h : Sm 4400 q) (h' : Sm 4400 r) : (q.num * (r.den : Int)).natAbs < 2 ^ 8800 := wide_lt (i := q.num) (j := r.den) h.1 (by rw [den_abs]; exact h'.2)
theorem _root_.Hq.Sm.nnlt {q r : Rat} (h : Sm 4400 q) (h' : Sm 4400 r) : (q.num * r.num).natAbs < 2 ^ 9000 := Nat.lt_of_lt_of_le (wide_lt (i := q.num) (j := r.num) h.1 h'.1) (Nat.pow_le_pow_right (by decide) (by decide))
theorem _root_.Hq.Sm.nlt9 {q r : Rat} (h : Sm 4400 q) (h' : Sm 4400 r) : (q.num * (r.den : Int)).natAbs < 2 ^ 9000 := Nat.lt_of_lt_of_le (h.nlt h') (Nat.pow_le_pow_right (by decide) (by decide))
theorem add9 {a b : Int} (ha : a.natAbs < 2 ^ 8800) (hb : b.natAbs < 2 ^ 8800) : (a + b).natAbs < 2 ^ 9000 := by
  have h1 := Int.natAbs_add_le a b
  have h2 : 2 ^ 8800 + 2 ^ 8800 ≤ 2 ^ 9000 := by
    rw [← Nat.two_mul, ← Nat.pow_succ']
    exact Nat.pow_le_pow_right (by decide) (by decide)
  omega
theorem num_neg (q : Rat) : num (-q) = .tuple [.int (-q.num), .int q.den] := by
  unfold num
  rw [Rat.neg_num, Rat.neg_den]
section
variable {P : Program} {w : World} {K : PySem.W.Frag} {mg : Str → Option Value} {base : Heap}
theorem sc_L_gcd : FnScope ["_law_a", "_law_b", "_law_turn"] ["_law_a", "_law_b"] (defScope st_L_gcd) := ⟨rfl, rfl, rfl, by decide +kernel, rfl, by decide +kernel, by decide +kernel⟩
theorem fn_L_gcd (T : Top K mg) : FnIs P w K mg base "_law_gcd" ["_law_a", "_law_b"] 1 R_Lgcd := by
  refine mkD (d := dd_L_gcd) T 45 rfl rfl rfl sc_L_gcd (fun _ _ _ _ _ _ us hl => match us, hl with | [_, _], _ => rfl) (fun f cdv A outer s H E hr ds x hR _ => ?_)
  obtain ⟨a, b, rfl, ha, hb, rfl⟩ := hR
  have nd := sc_L_gcd.nd
  refine dss_seq (ds_par 0 1 rfl nd (da_cons (d := .int (a.natAbs : Nat)) (de_is (de_abs (T.free _ (by decide)) (de_var 0 rfl)) (by rw [abs_int])) (da_cons (d := .int (b.natAbs : Nat)) (de_is (de_abs (T.free _ (by decide)) (de_var 1 rfl)) (by rw [abs_int])) da_nil)) rfl rfl) ?_
  have p0 : a.natAbs * b.natAbs < 2 ^ 18000 := mul_lt2 ha hb
  refine dss_cons (mid := fun z => ∃ c, z = [.d (.int (Nat.gcd a.natAbs b.natAbs : Nat)), .d (.int 0), c]) (ds_for PassesOwn.never rfl (di_rng (m := 20000) (T.free _ (by decide)) de_int rfl (by decide)) (fun i z => ∃ (x y : Nat) (c : SD), z = [.d (.int (x : Nat)), .d (.int (y : Nat)), c] ∧ Nat.gcd x y = Nat.gcd a.natAbs b.natAbs ∧ EuOk i x y) ⟨_, _, .no, rfl, rfl, .inl ⟨rfl, p0⟩⟩ ?_ ?_) ?_
  · rintro i d ss' hd ⟨x, y, c, rfl, hg, he⟩
    obtain ⟨rfl, hi⟩ := rgD_get hd
    refine ⟨_, _, dg_name 2 nd, fun B1 e1 => ?_⟩
    refine dss_cons (mid := fun z => z = [.d (.int (x : Nat)), .d (.int (y : Nat)), .d (.int (0 + (i : Nat)))] ∧ 0 < y) (ds_if (dt_cmp cmp_eqI (de_var 1 rfl) de_int) (fun h => dss_end (ds_brk ?_)) (fun h => dss_nil ⟨rfl, ?_⟩)) ?_
    · have h0 : y = 0 := by have := of_decide_eq_true h; omega
      subst h0
      rw [Nat.gcd_zero_right] at hg
      exact ⟨.d (.int (0 + (i : Nat))), by rw [← hg]; rfl⟩
    · have := of_decide_eq_false h; omega
    rintro ss' ⟨rfl, hy⟩
    refine dss_one (ds_par 0 1 rfl nd (da_cons (de_var 1 rfl) (da_cons (d := .int ((x % y : Nat) : Int)) (de_is (de_mod (de_intI (T.free _ (by decide)) (de_var 0 rfl)) (de_var 1 rfl) (by omega)) (by rw [Int.natCast_emod])) da_nil)) rfl ⟨y, x % y, .d (.int (0 + (i : Nat))), rfl, ?_, eu_step he hy⟩)
    rw [← hg, Nat.gcd_comm y, ← Nat.gcd_rec, Nat.gcd_comm]
  · rintro ss' ⟨x, y, c, rfl, hg, he⟩
    rw [rgD_len] at he
    have h0 := eu_end he
    subst h0
    rw [Nat.gcd_zero_right] at hg
    exact ⟨c, by rw [← hg]; rfl⟩
  · rintro ss' ⟨c, rfl⟩
    exact dss_one (ds_ret (de_var 0 rfl) rfl)
theorem sc_L_number : FnScope ["_law_n", "_law_d", "_law_common"] ["_law_n", "_law_d"] (defScope st_L_number) := ⟨rfl, rfl, rfl, by decide +kernel, rfl, by decide +kernel, by decide +kernel⟩
theorem fn_L_number (T : Top K mg) : FnIs P w K mg base "_law_number" ["_law_n", "_law_d"] 2 R_Lnumber := by
  refine mkD (d := dd_L_number) T 46 rfl rfl rfl sc_L_number (fun _ _ _ _ _ _ us hl => match us, hl with | [_, _], _ => rfl) (fun f cdv A outer s H E hr ds x hR _ => ?_)
  obtain ⟨n, d, rfl, hd, hn, hb, rfl⟩ := hR
  have nd' := sc_L_number.nd
  refine dss_cons (mid := fun s => s = [.d (.int (nn n d)), .d (.int (nd d)), .no]) (ds_if (dt_cmp cmp_lt (de_var 1 rfl) de_int) (fun h => dss_one (ds_par 0 1 rfl nd' (da_cons (de_neg (de_var 0 rfl)) (da_cons (de_neg (de_var 1 rfl)) da_nil)) rfl ?_)) (fun h => dss_nil ?_)) ?_
  · have h := of_decide_eq_true h
    show [SD.d (.int (-n)), SD.d (.int (-d)), SD.no] = _
    unfold nn Hq.nd
    rw [if_pos h, if_pos h]
  · have h := of_decide_eq_false h
    show [SD.d (.int n), SD.d (.int d), SD.no] = _
    unfold nn Hq.nd
    rw [if_neg h, if_neg h]
  · rintro ss' rfl
    have h1 := wide_div (i := nn n d) (gcd_pos (n := n) hd) (b := 9000) (by
      rw [Int.natAbs_natCast]; exact Nat.lt_of_le_of_lt (gcd_le hd) hb) (by decide) (by decide)
    have h2 := wide_div (i := Hq.nd d) (gcd_pos (n := n) hd) (b := 9000) (by
      rw [Int.natAbs_natCast]; exact Nat.lt_of_le_of_lt (gcd_le hd) hb) (by decide) (by decide)
    refine dss_seq (ds_set 2 nd' (de_call (fn_L_gcd T) hr (da_cons (de_var 0 rfl) (da_cons (de_var 1 rfl) da_nil)) ⟨_, _, rfl, by rw [nn_abs]; exact hn, by rw [nd_abs]; exact hb, rfl⟩) rfl) ?_
    refine dss_one (ds_ret (de_tup (da_cons (de_fdivW (de_var 0 rfl) (de_var 2 rfl) h1) (da_cons (de_fdivW (de_var 1 rfl) (de_var 2 rfl) h2) da_nil))) ?_)
    show PyData.tuple [.int _, .int _] = _
    rw [num_eq n d hd, den_eq n d hd]
    rfl
theorem sc_L_plus : FnScope ["_law_a", "_law_b"] ["_law_a", "_law_b"] (defScope st_L_plus) := ⟨rfl, rfl, rfl, by decide +kernel, rfl, by decide +kernel, by decide +kernel⟩
theorem fn_L_plus (T : Top K mg) : FnIs P w K mg base "_law_plus" ["_law_a", "_law_b"] 3 (R_op (fun _ _ => True) fun a b => num (a + b)) := by
  refine mkD (d := dd_L_plus) T 47 rfl rfl rfl sc_L_plus (fun _ _ _ _ _ _ us hl => match us, hl with | [_, _], _ => rfl) (fun f cdv A outer s H E hr ds x hR _ => ?_)
  obtain ⟨a, b, rfl, ha, hb, _, rfl⟩ := hR
  refine dss_one (ds_ret (de_call (fn_L_number T) hr (da_cons (de_add (de_mul (de_n (de_var 0 rfl)) (de_d (de_var 1 rfl)) (ha.cn hb (by decide) (by decide))) (de_mul (de_n (de_var 1 rfl)) (de_d (de_var 0 rfl)) (hb.cn ha (by decide) (by decide))))
    (da_cons (de_mul (de_d (de_var 0 rfl)) (de_d (de_var 1 rfl)) (ha.dd hb (by decide) (by decide))) da_nil)) ⟨_, _, rfl, den_ne a b, add9 (ha.nlt hb) (hb.nlt ha), ha.dlt hb, rfl⟩) ?_)
  show num _ = num _
  rw [add_eq]
theorem sc_L_times : FnScope ["_law_a", "_law_b"] ["_law_a", "_law_b"] (defScope st_L_times) := ⟨rfl, rfl, rfl, by decide +kernel, rfl, by decide +kernel, by decide +kernel⟩
theorem fn_L_times (T : Top K mg) : FnIs P w K mg base "_law_times" ["_law_a", "_law_b"] 3 (R_op (fun _ _ => True) fun a b => num (a * b)) := by
  refine mkD (d := dd_L_times) T 48 rfl rfl rfl sc_L_times (fun _ _ _ _ _ _ us hl => match us, hl with | [_, _], _ => rfl) (fun f cdv A outer s H E hr ds x hR _ => ?_)
  obtain ⟨a, b, rfl, ha, hb, _, rfl⟩ := hR
  refine dss_one (ds_ret (de_call (fn_L_number T) hr (da_cons (de_mul (de_n (de_var 0 rfl)) (de_n (de_var 1 rfl)) (ha.nn hb (by decide) (by decide)))
    (da_cons (de_mul (de_d (de_var 0 rfl)) (de_d (de_var 1 rfl)) (ha.dd hb (by decide) (by decide))) da_nil)) ⟨_, _, rfl, den_ne a b, ha.nnlt hb, ha.dlt hb, rfl⟩) ?_)
  show num _ = num _
  rw [mul_eq]
theorem sc_L_minus : FnScope ["_law_a", "_law_b"] ["_law_a", "_law_b"] (defScope st_L_minus) := ⟨rfl, rfl, rfl, by decide +kernel, rfl, by decide +kernel, by decide +kernel⟩
theorem fn_L_minus (T : Top K mg) : FnIs P w K mg base "_law_minus" ["_law_a", "_law_b"] 4 (R_op (fun _ _ => True) fun a b => num (a - b)) := by
  refine mkD (d := dd_L_minus) T 49 rfl rfl rfl sc_L_minus (fun _ _ _ _ _ _ us hl => match us, hl with | [_, _], _ => rfl) (fun f cdv A outer s H E hr ds x hR _ => ?_)
  obtain ⟨a, b, rfl, ha, hb, _, rfl⟩ := hR
  refine dss_one (ds_ret (de_call (fn_L_plus T) hr (da_cons (de_var 0 rfl) (da_cons (d := num (-b)) (de_is (de_tup (da_cons (de_neg (de_n (de_var 1 rfl))) (da_cons (de_d (de_var 1 rfl)) da_nil))) (num_neg b).symm) da_nil)) ⟨_, _, rfl, ha, hb.neg, trivial, rfl⟩) ?_)
  show num _ = num _
  rw [Rat.sub_eq_add_neg]
theorem sc_L_over : FnScope ["_law_a", "_law_b"] ["_law_a", "_law_b"] (defScope st_L_over) := ⟨rfl, rfl, rfl, by decide +kernel, rfl, by decide +kernel, by decide +kernel⟩
theorem fn_L_over (T : Top K mg) : FnIs P w K mg base "_law_over" ["_law_a", "_law_b"] 3 (R_op (fun _ b => b ≠ 0) fun a b => num (a / b)) := by
  refine mkD (d := dd_L_over) T 50 rfl rfl rfl sc_L_over (fun _ _ _ _ _ _ us hl => match us, hl with | [_, _], _ => rfl) (fun f cdv A outer s H E hr ds x hR _ => ?_)
  obtain ⟨a, b, rfl, ha, hb, h0, rfl⟩ := hR
  refine dss_one (ds_ret (de_call (fn_L_number T) hr (da_cons (de_mul (de_n (de_var 0 rfl)) (de_d (de_var 1 rfl)) (ha.cn hb (by decide) (by decide)))
    (da_cons (de_mul (de_d (de_var 0 rfl)) (de_n (de_var 1 rfl)) (ha.nc hb (by decide) (by decide))) da_nil)) ⟨_, _, rfl, ?_, ha.nlt9 hb, ha.dnlt hb, rfl⟩) ?_)
  · exact Int.mul_ne_zero (Int.ne_of_gt (den_pos a)) (fun h => h0 (Rat.num_eq_zero.mp h))
  · show num _ = num _
    rw [div_eq]
theorem sc_L_less : FnScope ["_law_a", "_law_b"] ["_law_a", "_law_b"] (defScope st_L_less) := ⟨rfl, rfl, rfl, by decide +kernel, rfl, by decide +kernel, by decide +kernel⟩
theorem fn_L_less (T : Top K mg) : FnIs P w K mg base "_law_less" ["_law_a", "_law_b"] 1 (R_op (fun _ _ => True) fun a b => .bool (decide (a < b))) := by
  refine mkD (d := dd_L_less) T 51 rfl rfl rfl sc_L_less (fun _ _ _ _ _ _ us hl => match us, hl with | [_, _], _ => rfl) (fun f cdv A outer s H E hr ds x hR _ => ?_)
  obtain ⟨a, b, rfl, ha, hb, _, rfl⟩ := hR
  refine dss_one (ds_ret (de_cmp cmp_lt (de_mul (de_n (de_var 0 rfl)) (de_d (de_var 1 rfl)) (ha.cn hb (by decide) (by decide))) (de_mul (de_n (de_var 1 rfl)) (de_d (de_var 0 rfl)) (hb.cn ha (by decide) (by decide)))) ?_)
  show PyData.bool _ = .bool _
  rw [lt_eq]
theorem sc_L_sum : FnScope ["_law_numbers", "_law_found", "_law_one"] ["_law_numbers"] (defScope st_L_sum) := ⟨rfl, rfl, rfl, by decide +kernel, rfl, by decide +kernel, by decide +kernel⟩
theorem fn_L_sum (T : Top K mg) : FnIs P w K mg base "_law_sum" ["_law_numbers"] 4 R_Lsum := by
  refine mkD (d := dd_L_sum) T 52 rfl rfl rfl sc_L_sum (fun _ _ _ _ _ _ us hl => match us, hl with | [_], _ => rfl) (fun f cdv A outer s H E hr ds x hR _ => ?_)
  obtain ⟨xs, rfl, hok, rfl⟩ := hR
  have nd := sc_L_sum.nd
  refine dss_seq (ds_set 1 nd (d := num 0) (de_tup (da_cons de_int (da_cons de_int da_nil))) rfl) ?_
  refine dss_cons (mid := fun s => ∃ c, s = [.d (numL xs), .d (num (sumQ xs)), c]) (ds_for PassesOwn.never rfl (di_list (de_var 0 rfl)) (fun i s => ∃ c, s = [.d (numL xs), .d (num (sumQ (xs.take i))), c]) ⟨.no, rfl⟩ ?_ ?_) ?_
  · rintro i d ss' hd ⟨c, rfl⟩
    obtain ⟨q, hq, rfl, hi, hm, ht⟩ := map_get hd
    refine ⟨_, _, dg_name 2 nd, fun B1 e1 => dss_one (ds_set 1 nd (de_call (fn_L_plus T) hr (da_cons (de_var 1 rfl) (da_cons (de_var 2 rfl) da_nil)) ⟨_, _, rfl, hok.2 i (Nat.le_of_lt hi), hok.1 _ hm, trivial, rfl⟩) ⟨.d (num q), by rw [ht, sumQ_snoc]; rfl⟩)⟩
  · rintro ss' ⟨c, rfl⟩
    exact ⟨c, by rw [List.length_map, List.take_length]⟩
  · rintro ss' ⟨c, rfl⟩
    exact dss_one (ds_ret (de_var 1 rfl) rfl)
theorem sc_L_dot : FnScope ["_law_a", "_law_b", "_law_k"] ["_law_a", "_law_b"] (defScope st_L_dot) := ⟨rfl, rfl, rfl, by decide +kernel, rfl, by decide +kernel, by decide +kernel⟩
theorem zipWith_range (a b : List Rat) (h : a.length = b.length) : List.zipWith (· * ·) a b = (List.range a.length).map fun i => getQ a i * getQ b i := by
  refine List.ext_getElem (by simp [h]) fun i h1 h2 => ?_
  have hi : i < a.length := by simpa using h2
  rw [List.getElem_zipWith, List.getElem_map, List.getElem_range]
  rw [Option.some.inj ((List.getElem?_eq_getElem hi).symm.trans (getQ_at hi)), Option.some.inj ((List.getElem?_eq_getElem (by omega)).symm.trans (getQ_at (show i < b.length by omega)))]
theorem fn_L_dot (T : Top K mg) : FnIs P w K mg base "_law_dot" ["_law_a", "_law_b"] 5 R_Ldot := by
  refine mkD (d := dd_L_dot) T 53 rfl rfl rfl sc_L_dot (fun _ _ _ _ _ _ us hl => match us, hl with | [_, _], _ => rfl) (fun f cdv A outer s H E hr ds x hR _ => ?_)
  obtain ⟨a, b, rfl, ⟨h1, h2, h3, h4⟩, hl, rfl⟩ := hR
  have nd := sc_L_dot.nd
  refine dss_one (ds_ret (de_call (fn_L_sum T) hr (da_cons (d := numL (List.zipWith (· * ·) a b)) (de_is (de_dl (dl_dc rfl nd (dc_map [("_law_k", 2)] (List.range a.length) (fun i => .int (i : Nat)) (fun i => num (getQ a i * getQ b i)) (fun i => [.d (numL a), .d (numL b), .d (.int (i : Nat))])
    (by rw [← rgD_map]; exact di_rng (T.free _ (by decide)) (de_lenL (T.free _ (by decide)) (de_var 0 rfl)) (by rw [List.length_map]) (by omega)) (by rw [List.length_range]; omega) rfl (fun u hu s H C cl fp => ⟨_, (by decide), dg_name 2 nd, fun B1 e1 =>
      de_call (fn_L_times T) (hr.mono (by decide)) (da_cons (de_at (de_var 0 rfl) (de_var 2 rfl) (List.mem_range.mp hu)) (da_cons (de_at (de_var 1 rfl) (de_var 2 rfl) (by rw [← hl]; exact List.mem_range.mp hu)) da_nil)) ⟨_, _, rfl, h1 _ (getQ_mem (List.mem_range.mp hu)), h2 _ (getQ_mem (by rw [← hl]; exact List.mem_range.mp hu)), trivial, rfl⟩⟩)))) ?_) da_nil) ⟨_, rfl, h4, rfl⟩) rfl)
  unfold numL
  rw [zipWith_range a b hl, List.map_map]
  rfl
end
end Hk
end
section
set_option Elab.async false
set_option linter.all false
set_option maxRecDepth 100000
set_option maxHeartbeats 4000000
set_option exponentiation.threshold 100000
namespace Hk
open PySem PySem.Spec PyProof.Rows L2
open Evl (Ex)
open Hq
def R_Lwhole (ds : List PyData) (x : PyData) : Prop := ∃ i : Int, ds = [.int i] ∧ x = .bool true
def R_LisNum (ds : List PyData) (x : PyData) : Prop := ∃ q : Rat, ds = [num q] ∧ Sm 4400 q ∧ x = .bool true
def R_LisList (ds : List PyData) (x : PyData) : Prop := ∃ xs : List Rat, ds = [numL xs, .int (xs.length : Nat)] ∧ AllSm 4400 xs ∧ xs.length < 1000 ∧ x = .bool true
def ruleKeeps (r : Rule) (q : Rat) : Bool := match r with
  | .long => decide (0 ≤ q)
  | .short => decide (q ≤ 0)
  | .any => true
  | .none_ => decide (q = 0)
def R_LruleKeeps (ds : List PyData) (x : PyData) : Prop := ∃ r q, ds = [ruleD r, num q] ∧ x = .bool (ruleKeeps r q)
def Keeps (m : Market) (k : Nat) (hs : List Rat) : Prop := hs.length = m.many ∧ ∀ a r, (nodeAt m k).rules[a]? = some r → ruleKeeps r (getQ hs a) = true
def R_LkeepsRules (ds : List PyData) (x : PyData) : Prop := ∃ names m k hs, ds = [marketD names m, .int (k : Nat), numL hs] ∧ WfM names m ∧ k < m.nodes.length ∧ Keeps m k hs ∧ x = .bool true
theorem reduced (q : Rat) : Nat.gcd q.num.natAbs q.den = 1 := q.reduced
theorem num_sign (q : Rat) : (decide (0 ≤ q.num) = decide (0 ≤ q)) ∧ (decide (q.num ≤ 0) = decide (q ≤ 0)) ∧ (decide (q.num = 0) = decide (q = 0)) ∧ decide (0 < q.num) = decide (0 < q) ∧ decide (q.num < 0) = decide (q < 0) := by
  have h1 : 0 ≤ q.num ↔ 0 ≤ q := Rat.num_nonneg
  have h2 : q.num = 0 ↔ q = 0 := Rat.num_eq_zero
  have h3 : 0 ≤ (-q).num ↔ 0 ≤ -q := Rat.num_nonneg
  rw [Rat.neg_num] at h3
  have h4 : q.num ≤ 0 ↔ q ≤ 0 := by
    constructor
    · intro h; have := h3.mp (by omega); grind
    · intro h; have := h3.mpr (by grind); omega
  refine ⟨decide_eq_decide.mpr h1, decide_eq_decide.mpr h4, decide_eq_decide.mpr h2, decide_eq_decide.mpr ?_, decide_eq_decide.mpr ?_⟩
  · constructor
    · intro h
      have : ¬ q ≤ 0 := fun z => by have := h4.mpr z; omega
      grind
    · intro h
      have : ¬ q.num ≤ 0 := fun z => by have := h4.mp z; grind
      omega
  · constructor
    · intro h
      have : ¬ 0 ≤ q := fun z => by have := h1.mpr z; omega
      grind
    · intro h
      have : ¬ 0 ≤ q.num := fun z => by have := h1.mp z; grind
      omega
section
variable {P : Program} {w : World} {K : PySem.W.Frag} {mg : Str → Option Value} {base : Heap}
theorem sc_L_is_whole : FnScope ["_law_value"] ["_law_value"] (defScope st_L_is_whole) := ⟨rfl, rfl, rfl, by decide +kernel, rfl, by decide +kernel, by decide +kernel⟩
theorem fn_L_is_whole (T : Top K mg) : FnIs P w K mg base "_law_is_whole" ["_law_value"] 1 R_Lwhole := by
  refine mkD (d := dd_L_is_whole) T 54 rfl rfl rfl sc_L_is_whole (fun _ _ _ _ _ _ us hl => match us, hl with | [_], _ => rfl) (fun f cdv A outer s H E hr ds x hR _ => ?_)
  obtain ⟨i, rfl, rfl⟩ := hR
  exact dss_one (ds_ret (de_and (c := true) (c' := true) (de_isi (Ts := "int") (S := "int") (bb := true) (T.free _ (by decide)) (T.free _ (by decide)) (by decide +kernel) (de_var 0 rfl) (fun H v h => ty_int h) (by decide +kernel)) fun _ => de_one (de_not (c := false) (de_isi (Ts := "bool") (S := "int") (bb := false) (T.free _ (by decide)) (T.free _ (by decide)) (by decide +kernel) (de_var 0 rfl) (fun H v h => ty_int h) (by decide +kernel)))) rfl)
theorem sc_L_is_number : FnScope ["_law_value"] ["_law_value"] (defScope st_L_is_number) := ⟨rfl, rfl, rfl, by decide +kernel, rfl, by decide +kernel, by decide +kernel⟩
theorem fn_L_is_number (T : Top K mg) : FnIs P w K mg base "_law_is_number" ["_law_value"] 2 R_LisNum := by
  refine mkD (d := dd_L_is_number) T 55 rfl rfl rfl sc_L_is_number (fun _ _ _ _ _ _ us hl => match us, hl with | [_], _ => rfl) (fun f cdv A outer s H E hr ds x hR _ => ?_)
  obtain ⟨q, rfl, hq, rfl⟩ := hR
  refine dss_seq (ds_if (t := false) (dt_w (dw_or (c := false) (c' := false) (dt_not (c := true) (dt_val (de_isi (Ts := "tuple") (S := "tuple") (bb := true) (T.free _ (by decide)) (T.free _ (by decide)) (by decide +kernel) (de_var 0 rfl) (fun H v h => ty_tuple h) (by decide +kernel)))) fun _ => dw_or1 (dt_cmp cmp_neI (de_lenT (xs := [.int q.num, .int q.den]) (T.free _ (by decide)) (de_var 0 rfl)) de_int))) (fun z => nomatch z) (fun _ => dss_nil rfl)) ?_
  refine dss_seq (ds_if (t := false) (dt_w (dw_or (c := false) (c' := false) (dt_not (c := true) (dt_val (de_call (fn_L_is_whole T) hr (da_cons (de_n (de_var 0 rfl)) da_nil) ⟨_, rfl, rfl⟩))) fun _ => dw_or1 (dt_not (c := true) (dt_val (de_call (fn_L_is_whole T) hr (da_cons (de_d (de_var 0 rfl)) da_nil) ⟨_, rfl, rfl⟩))))) (fun z => nomatch z) (fun _ => dss_nil rfl)) ?_
  have h9 : 2 ^ 4400 ≤ 2 ^ 9000 := Nat.pow_le_pow_right (by decide) (by decide)
  refine dss_one (ds_ret (de_and (de_cmp cmp_ge (de_d (de_var 0 rfl)) de_int) fun _ => de_one (de_cmp cmp_eqI (de_call (fn_L_gcd T) hr (da_cons (de_n (de_var 0 rfl)) (da_cons (de_d (de_var 0 rfl)) da_nil)) ⟨_, _, rfl, Nat.lt_of_lt_of_le hq.1 h9, by rw [den_abs]; exact Nat.lt_of_lt_of_le hq.2 h9, rfl⟩) de_int)) ?_)
  show PyData.bool _ = .bool true
  have := den_pos q
  rw [den_abs, reduced]
  congr 1
  rw [decide_eq_true (show (1 : Int) ≤ q.den by omega)]
  rfl
theorem sc_L_is_list : FnScope ["_law_value", "_law_many", "_law_one"] ["_law_value", "_law_many"] (defScope st_L_is_list) := ⟨rfl, rfl, rfl, by decide +kernel, rfl, by decide +kernel, by decide +kernel⟩
theorem fn_L_is_list (T : Top K mg) : FnIs P w K mg base "_law_is_list" ["_law_value", "_law_many"] 3 R_LisList := by
  refine mkD (d := dd_L_is_list) T 56 rfl rfl rfl sc_L_is_list (fun _ _ _ _ _ _ us hl => match us, hl with | [_, _], _ => rfl) (fun f cdv A outer s H E hr ds x hR _ => ?_)
  obtain ⟨xs, rfl, hx, hl, rfl⟩ := hR
  have nd := sc_L_is_list.nd
  refine dss_one (ds_ret (de_and (c := true) (c' := true) (de_isi (Ts := "list") (S := "list") (bb := true) (T.free _ (by decide)) (T.free _ (by decide)) (by decide +kernel) (de_var 0 rfl) (fun H v h => ty_list h) (by decide +kernel)) fun _ => de_and (c := true) (c' := true) (de_is (de_cmp cmp_eqI (de_lenL (T.free _ (by decide)) (de_var 0 rfl)) (de_var 1 rfl)) (by rw [List.length_map]; simp))
    fun _ => de_one (de_is (de_all (bs := xs.map fun _ => true) rfl (T.free _ (by decide)) (de_is (de_dl (dl_dc rfl nd (dc_map [("_law_one", 2)] xs num (fun _ => .bool true) (fun q => [.d (numL xs), .d (.int (xs.length : Nat)), .d (num q)]) (di_list (de_var 0 rfl)) (by omega) rfl (fun u hu s H C cl fp => ⟨_, (by decide), dg_name 2 nd, fun B1 e1 =>
      de_call (fn_L_is_number T) hr (da_cons (de_var 2 rfl) da_nil) ⟨_, rfl, hx u hu, rfl⟩⟩)))) (by rw [List.map_map]; rfl))) (by simp))) rfl)
theorem sc_L_children : FnScope ["_law_market_here", "_law_node", "_law_k"] ["_law_market_here", "_law_node"] (defScope st_L_children) := ⟨rfl, rfl, rfl, by decide +kernel, rfl, by decide +kernel, by decide +kernel⟩
theorem fn_L_children (T : Top K mg) : FnIs P w K mg base "_law_children" ["_law_market_here", "_law_node"] 1 R_children := by
  refine mkD (d := dd_L_children) T 57 rfl rfl rfl sc_L_children (fun _ _ _ _ _ _ us hl => match us, hl with | [_, _], _ => rfl) (fun f cdv A outer s H E hr ds x hR _ => ?_)
  obtain ⟨names, m, k, rfl, W, rfl⟩ := hR
  refine dss_one (ds_ret (de_dl (dl_dc rfl sc_L_children.nd (dc [("_law_k", 2)] (List.range m.nodes.length) (fun i => .int (i : Nat)) (fun i => decide ((nodeAt m i).par = (k : Int))) (fun i => .int (i : Nat)) (fun i => [.d (marketD names m), .d (.int (k : Nat)), .d (.int (i : Nat))])
    (by rw [← rgD_map]; exact di_rng (T.free _ (by decide)) (de_lenL (T.free _ (by decide)) (de_nodes (de_var 0 rfl))) (by rw [List.length_map]) (by have := W.len; omega)) (by have := W.len; rw [List.length_range]; omega) rfl (fun u hu s H C cl fp => ⟨_, (by decide), dg_name 2 sc_L_children.nd, fun B1 e1 =>
      ⟨dt_cmp cmp_eqI (de_par (de_node (de_nodes (de_var 0 rfl)) (de_var 2 rfl) (List.mem_range.mp hu))) (de_var 1 rfl), fun _ => de_var 2 rfl⟩⟩)))) rfl)
theorem sc_L_gains : FnScope ["_law_market_here", "_law_node", "_law_found", "_law_old", "_law_child", "_law_new", "_law_line", "_law_k"] ["_law_market_here", "_law_node"] (defScope st_L_gains) := ⟨rfl, rfl, rfl, by decide +kernel, rfl, by decide +kernel, by decide +kernel⟩
theorem fn_L_gains (T : Top K mg) : FnIs P w K mg base "_law_gains" ["_law_market_here", "_law_node"] 5 R_gains := by
  refine mkD (d := dd_L_gains) T 58 rfl rfl rfl sc_L_gains (fun _ _ _ _ _ _ us hl => match us, hl with | [_, _], _ => rfl) (fun f cdv A outer s H E hr ds x hR _ => ?_)
  obtain ⟨names, m, k, rfl, W, hk, rfl⟩ := hR
  have nd := sc_L_gains.nd
  have hml := W.len
  have hkl := kids_len m k
  have w1 := W.at_ hk
  have hmany := W.many
  let st : List (List Rat) → SD → SD → SD → SD → List SD := fun F c4 c5 c6 c7 => [.d (marketD names m), .d (.int (k : Nat)), .m (F.map numL), .d (nodeD (nodeAt m k)), c4, c5, c6, c7]
  refine dss_seq (ds_setL 2 nd (dl_lst da_nil) rfl) (dss_seq (ds_set 3 nd (de_node (de_nodes (de_var 0 rfl)) (de_var 1 rfl) hk) rfl) ?_)
  refine dss_cons (mid := fun z => ∃ c4 c5 c6 c7, z = st (gains m k) c4 c5 c6 c7) (ds_for PassesOwn.never rfl (di_list (xs := (kids m k).map fun i => .int (i : Nat)) (de_call (fn_L_children T) (hr.mono (by decide)) (da_cons (de_var 0 rfl) (da_cons (de_var 1 rfl) da_nil)) ⟨_, _, _, rfl, W, rfl⟩)) (fun i z => ∃ c4 c5 c6 c7, z = st (((kids m k).take i).map (gainsIn m k)) c4 c5 c6 c7) ⟨.no, .no, .no, .no, rfl⟩ ?_ ?_) ?_
  · rintro i d ss' hd ⟨c4, c5, c6, c7, rfl⟩
    obtain ⟨c, hc, rfl, hi, hm, ht⟩ := map_get hd
    have hcl := kids_lt hm
    have w2 := W.at_ hcl
    let gq : Nat → Rat := fun a => (getQ (nodeAt m c).pr a + getQ (nodeAt m c).po a) - (nodeAt m k).g * getQ (nodeAt m k).pr a
    let st2 : List Rat → SD → List SD := fun L c7 => [.d (marketD names m), .d (.int (k : Nat)), .m ((((kids m k).take i).map (gainsIn m k)).map numL), .d (nodeD (nodeAt m k)), .d (.int (c : Nat)), .d (nodeD (nodeAt m c)), .m (L.map num), c7]
    refine ⟨_, _, dg_name 4 nd, fun B1 e1 => dss_seq (ds_set 5 nd (de_node (de_nodes (de_var 0 rfl)) (de_var 4 rfl) hcl) rfl) (dss_seq (ds_setL 6 nd (dl_lst da_nil) rfl) ?_)⟩
    refine dss_cons (mid := fun z => ∃ c7, z = st2 (gainsIn m k c) c7) (ds_for PassesOwn.never rfl (di_rng (m := m.many) (T.free _ (by decide)) (de_lenL (T.free _ (by decide)) (de_assets (de_var 0 rfl))) (by rw [W.nl]) (by omega)) (fun j z => ∃ c7, z = st2 ((List.range j).map gq) c7) ⟨c7, rfl⟩ ?_ ?_) ?_
    · rintro j d ss' hd ⟨c7, rfl⟩
      obtain ⟨rfl, hj⟩ := rgD_get hd
      rw [Int.zero_add]
      obtain ⟨s1, s2, s3, s4⟩ := gains_sm W hk hcl hj
      refine ⟨_, _, dg_name 7 nd, fun B1 e1 => dss_one (ds_app 6 rfl (d := num (gq j)) (de_call (fn_L_minus T) hr (da_cons (de_call (fn_L_plus T) (hr.mono (by decide)) (da_cons (de_at (de_prices (de_var 5 rfl)) (de_var 7 rfl) (by rw [w2.pr]; exact hj)) (da_cons (de_at (de_payouts (de_var 5 rfl)) (de_var 7 rfl) (by rw [w2.po]; exact hj)) da_nil)) ⟨_, _, rfl, s1.mono (by decide), s2.mono (by decide), trivial, rfl⟩)
        (da_cons (de_call (fn_L_times T) (hr.mono (by decide)) (da_cons (de_growth (de_var 3 rfl)) (da_cons (de_at (de_prices (de_var 3 rfl)) (de_var 7 rfl) (by rw [w1.pr]; exact hj)) da_nil)) ⟨_, _, rfl, s3.mono (by decide), s4.mono (by decide), trivial, rfl⟩) da_nil)) ⟨_, _, rfl, (s1.add s2).mono (by decide), (s3.mul s4).mono (by decide), trivial, rfl⟩) (by simp; omega) ⟨.d (.int (j : Nat)), ?_⟩)⟩
      rw [List.range_succ, List.map_append]
      simp only [st2, List.map_append]
      rfl
    · rintro ss' ⟨c7, rfl⟩
      rw [rgD_len]
      exact ⟨c7, rfl⟩
    · rintro ss' ⟨c7, rfl⟩
      refine dss_frz (i := 6) rfl (dss_one (ds_app 2 rfl (d := numL (gainsIn m k c)) (de_var 6 rfl) (by simp; omega) ⟨.d (.int (c : Nat)), .d (nodeD (nodeAt m c)), .d (numL (gainsIn m k c)), c7, ?_⟩))
      rw [ht]
      simp only [st, List.map_append]
      rfl
  · rintro ss' ⟨c4, c5, c6, c7, rfl⟩
    rw [List.length_map, List.take_length]
    exact ⟨c4, c5, c6, c7, rfl⟩
  · rintro ss' ⟨c4, c5, c6, c7, rfl⟩
    exact dss_frz (i := 2) rfl (dss_one (ds_ret (de_var 2 rfl) rfl))
theorem sc_L_rule_keeps : FnScope ["_law_rule", "_law_amount"] ["_law_rule", "_law_amount"] (defScope st_L_rule_keeps) := ⟨rfl, rfl, rfl, by decide +kernel, rfl, by decide +kernel, by decide +kernel⟩
theorem fn_L_rule_keeps (T : Top K mg) : FnIs P w K mg base "_law_rule_keeps" ["_law_rule", "_law_amount"] 1 R_LruleKeeps := by
  refine mkD (d := dd_L_rule_keeps) T 59 rfl rfl rfl sc_L_rule_keeps (fun _ _ _ _ _ _ us hl => match us, hl with | [_, _], _ => rfl) (fun f cdv A outer s H E hr ds x hR _ => ?_)
  obtain ⟨r, q, rfl, rfl⟩ := hR
  obtain ⟨n1, n2, n3, _, _⟩ := num_sign q
  refine dss_cons (mid := fun s => s = [.d (ruleD r), .d (num q)] ∧ r ≠ .long) (ds_if (dt_is (dt_cmp cmp_eqS (de_var 0 rfl) de_str) (rule_long r)) (fun h => dss_end (ds_ret (de_cmp cmp_ge (de_n (de_var 1 rfl)) de_int) ?_)) (fun h => dss_nil ⟨rfl, of_decide_eq_false h⟩)) ?_
  · have h' := of_decide_eq_true h
    subst h'
    exact congrArg PyData.bool n1
  rintro ss' ⟨rfl, g1⟩
  refine dss_cons (mid := fun s => s = [.d (ruleD r), .d (num q)] ∧ r ≠ .short) (ds_if (dt_is (dt_cmp cmp_eqS (de_var 0 rfl) de_str) (rule_short r)) (fun h => dss_end (ds_ret (de_cmp cmp_le (de_n (de_var 1 rfl)) de_int) ?_)) (fun h => dss_nil ⟨rfl, of_decide_eq_false h⟩)) ?_
  · have h' := of_decide_eq_true h
    subst h'
    exact congrArg PyData.bool n2
  rintro ss' ⟨rfl, g2⟩
  refine dss_one (ds_ret (de_or (de_is (de_cmp cmp_eqS (de_var 0 rfl) de_str) (congrArg PyData.bool (rule_any r))) fun _ => de_one (de_cmp cmp_eqI (de_n (de_var 1 rfl)) de_int)) ?_)
  rw [n3]
  cases r with
  | long => exact absurd rfl g1
  | short => exact absurd rfl g2
  | any => rfl
  | none_ => rfl
theorem sc_L_keeps_rules : FnScope ["_law_market_here", "_law_node", "_law_holdings", "_law_rules", "_law_k"] ["_law_market_here", "_law_node", "_law_holdings"] (defScope st_L_keeps_rules) := ⟨rfl, rfl, rfl, by decide +kernel, rfl, by decide +kernel, by decide +kernel⟩
theorem getD_rule {rs : List Rule} {k : Nat} (h : k < rs.length) : rs[k]? = some (rs.getD k .any) := getD_at h
theorem fn_L_keeps_rules (T : Top K mg) : FnIs P w K mg base "_law_keeps_rules" ["_law_market_here", "_law_node", "_law_holdings"] 2 R_LkeepsRules := by
  refine mkD (d := dd_L_keeps_rules) T 60 rfl rfl rfl sc_L_keeps_rules (fun _ _ _ _ _ _ us hl => match us, hl with | [_, _, _], _ => rfl) (fun f cdv A outer s H E hr ds x hR _ => ?_)
  obtain ⟨names, m, k, hs, rfl, W, hk, ⟨hl, hkp⟩, rfl⟩ := hR
  have nd := sc_L_keeps_rules.nd
  have w1 := W.at_ hk
  have hmany := W.many
  refine dss_seq (ds_set 3 nd (de_rules (de_node (de_nodes (de_var 0 rfl)) (de_var 1 rfl) hk)) rfl) ?_
  refine dss_one (ds_ret (de_is (de_all (bs := (List.range m.many).map fun _ => true) rfl (T.free _ (by decide)) (de_is (de_dl (dl_dc rfl nd (dc_map [("_law_k", 4)] (List.range m.many) (fun i => .int (i : Nat)) (fun _ => .bool true) (fun i => [.d (marketD names m), .d (.int (k : Nat)), .d (numL hs), .d (.list ((nodeAt m k).rules.map ruleD)), .d (.int (i : Nat))])
    (by rw [← rgD_map]; exact di_rng (T.free _ (by decide)) (de_lenL (T.free _ (by decide)) (de_var 3 rfl)) (by rw [List.length_map, w1.rules]) (by omega)) (by rw [List.length_range]; omega) rfl (fun u hu s H C cl fp => ⟨_, (by decide), dg_name 4 nd, fun B1 e1 => ?_⟩)))) (by rw [List.map_map]; rfl))) (by simp)) rfl)
  have hu' := List.mem_range.mp hu
  have hr0 := getD_rule (rs := (nodeAt m k).rules) (k := u) (by rw [w1.rules]; exact hu')
  exact de_call (fn_L_rule_keeps T) hr (da_cons (de_ixL (de_var 3 rfl) (de_var 4 rfl) (atI_map ruleD hr0)) (da_cons (de_at (de_var 2 rfl) (de_var 4 rfl) (by rw [hl]; exact hu')) da_nil)) ⟨_, _, rfl, by rw [hkp u _ hr0]⟩
end
end Hk
end
section
set_option Elab.async false
set_option linter.all false
set_option maxRecDepth 100000
set_option maxHeartbeats 4000000
set_option exponentiation.threshold 100000
namespace Hk
open PySem PySem.Spec PyProof.Rows L2
open Evl (Ex)
open Hq
def R_LisWeights (ds : List PyData) (x : PyData) : Prop := ∃ names m k y, ds = [marketD names m, .int (k : Nat), numL y, .int 0] ∧ WfM names m ∧ k < m.nodes.length ∧ y.length < 1000 ∧ SumOk y ∧ MeansOk m k y ∧ isWeights m k y = true ∧ x = .bool true
structure IsW (m : Market) (k : Nat) (y : List Rat) : Prop where
  ne : kids m k ≠ []
  len : y.length = (kids m k).length
  sum : sumQ y = 1
  pos : ∀ q ∈ y, 0 ≤ q
  keep : ∀ a r, (nodeAt m k).rules[a]? = some r → isMean r (dotQ y (col (gains m k) a)) = true
theorem isW_of {m : Market} {k : Nat} {y : List Rat} (h : isWeights m k y = true) : IsW m k y := by
  unfold isWeights at h
  simp only [Bool.and_eq_true, decide_eq_true_eq, Bool.not_eq_true', List.all_eq_true] at h
  obtain ⟨⟨⟨h1, h2⟩, h3, h4⟩, h5⟩ := h
  refine ⟨(fun e => by rw [e] at h1; cases h1), h2, h3, h4, fun a r hr => ?_⟩
  unfold keepMeans at h5
  rw [List.all_eq_true] at h5
  exact h5 (r, a) (List.mem_zipIdx_iff_getElem?.mpr (by simpa using hr))
theorem isW_to {m : Market} {k : Nat} {y : List Rat} (h : IsW m k y) : isWeights m k y = true := by
  unfold isWeights
  simp only [Bool.and_eq_true, decide_eq_true_eq, Bool.not_eq_true', List.all_eq_true]
  refine ⟨⟨⟨?_, h.len⟩, h.sum, h.pos⟩, ?_⟩
  · cases e : kids m k with
    | nil => exact absurd e h.ne
    | cons _ _ => rfl
  · unfold keepMeans
    rw [List.all_eq_true]
    rintro ⟨r, a⟩ hp
    exact h.keep a r (by simpa using List.mem_zipIdx_iff_getElem?.mp hp)
section
variable {P : Program} {w : World} {K : PySem.W.Frag} {mg : Str → Option Value} {base : Heap}
theorem sc_L_is_weights : FnScope ["_law_market_here", "_law_node", "_law_numbers", "_law_least", "_law_won", "_law_k", "_law_mean", "_law_rule", "_law_one", "_law_line"] ["_law_market_here", "_law_node", "_law_numbers", "_law_least"] (defScope st_L_is_weights) := ⟨rfl, rfl, rfl, by decide +kernel, rfl, by decide +kernel, by decide +kernel⟩
theorem fn_L_is_weights (T : Top K mg) : FnIs P w K mg base "_law_is_weights" ["_law_market_here", "_law_node", "_law_numbers", "_law_least"] 6 R_LisWeights := by
  refine mkD (d := dd_L_is_weights) T 61 rfl rfl rfl sc_L_is_weights (fun _ _ _ _ _ _ us hl => match us, hl with | [_, _, _, _], _ => rfl) (fun f cdv A outer s H E hr ds x hR _ => ?_)
  obtain ⟨names, m, k, y, rfl, W, hk, hy, sok, mok, hw, rfl⟩ := hR
  have nd := sc_L_is_weights.nd
  obtain ⟨w0, w1', w2, w3, w4⟩ := isW_of hw
  have hml := W.len
  have hkl := kids_len m k
  have wn := W.at_ hk
  have hmany := W.many
  have k0 : 0 < (kids m k).length := List.length_pos_iff.mpr w0
  refine dss_seq (ds_if (t := false) (dt_is (dt_w (dw_or (dt_cmp cmp_eqI (de_lenL (T.free _ (by decide)) (de_call (fn_L_children T) (hr.mono (by decide)) (da_cons (de_var 0 rfl) (da_cons (de_var 1 rfl) da_nil)) ⟨_, _, _, rfl, W, rfl⟩)) de_int)
    fun _ => dw_or1 (dt_cmp cmp_neI (de_lenL (T.free _ (by decide)) (de_var 2 rfl)) (de_lenL (T.free _ (by decide)) (de_call (fn_L_children T) (hr.mono (by decide)) (da_cons (de_var 0 rfl) (da_cons (de_var 1 rfl) da_nil)) ⟨_, _, _, rfl, W, rfl⟩))))) ?_) (fun z => nomatch z) (fun _ => dss_nil rfl)) ?_
  · rw [List.length_map, List.length_map, w1']
    simp
    exact w0
  have ef : y.filter (fun q => decide (q.num < 0)) = [] := by
    rw [List.filter_eq_nil_iff]
    intro q hq
    rw [(num_sign q).2.2.2.2]
    have := w3 q hq
    have h2 : ¬ q < 0 := fun z => by grind
    simp [h2]
  refine dss_seq (ds_if (t := false) (dt_is (dt_w (dw_or (dt_cmp cmp_gt (de_lenL (T.free _ (by decide)) (de_dl (dl_dc rfl nd (dc [("_law_one", 8)] y num (fun q => decide (q.num < 0)) num (fun q => [.d (marketD names m), .d (.int (k : Nat)), .d (numL y), .d (.int 0), .no, .no, .no, .no, .d (num q), .no]) (di_list (de_var 2 rfl)) (by omega) rfl
    (fun u hu s H C cl fp => ⟨_, (by decide), dg_name 8 nd, fun B1 e1 => ⟨dt_cmp cmp_lt (de_n (de_var 8 rfl)) (de_var 3 rfl), fun _ => de_var 8 rfl⟩⟩))))) de_int)
    fun _ => dw_or1 (dt_cmp (cmp_neN (q := sumQ y) (r := 1) hr.units) (de_call (fn_L_sum T) (hr.mono (by decide)) (da_cons (de_var 2 rfl) da_nil) ⟨_, rfl, sok, rfl⟩) (de_tup (da_cons de_int (da_cons de_int da_nil)))))) ?_) (fun z => nomatch z) (fun _ => dss_nil rfl)) ?_
  · rw [ef, w2]
    simp
  refine dss_seq (ds_set 4 nd (de_call (fn_L_gains T) hr (da_cons (de_var 0 rfl) (da_cons (de_var 1 rfl) da_nil)) ⟨_, _, _, rfl, W, hk, rfl⟩) rfl) ?_
  have gl : (gains m k).length < 100000 := by unfold gains; rw [List.length_map]; omega
  let st : SD → SD → SD → List SD := fun c5 c6 c7 => [.d (marketD names m), .d (.int (k : Nat)), .d (numL y), .d (.int 0), .d (numLL (gains m k)), c5, c6, c7, .no, .no]
  refine dss_cons (mid := fun z => True) (ds_for PassesOwn.never rfl (di_rng (m := m.many) (T.free _ (by decide)) (de_lenL (T.free _ (by decide)) (de_assets (de_var 0 rfl))) (by rw [W.nl]) (by omega)) (fun j z => ∃ c5 c6 c7, z = st c5 c6 c7) ⟨.no, .no, .no, rfl⟩ ?_ (fun _ _ => trivial)) ?_
  · rintro a d ss' hd ⟨c5, c6, c7, rfl⟩
    obtain ⟨rfl, ha⟩ := rgD_get hd
    rw [Int.zero_add]
    have dok := mok a ha
    have hr0 := getD_rule (rs := (nodeAt m k).rules) (k := a) (by rw [wn.rules]; exact ha)
    have him := w4 a _ hr0
    let q := dotQ y (col (gains m k) a)
    let r := (nodeAt m k).rules.getD a .any
    have him2 : isMean r q = true := him
    obtain ⟨n1, n2, n3, n4, n5⟩ := num_sign q
    refine ⟨_, _, dg_name 5 nd, fun B1 e1 => ?_⟩
    refine dss_seq (ds_set 6 nd (d := num q) (de_call (fn_L_dot T) hr (da_cons (de_var 2 rfl) (da_cons (d := numL (col (gains m k) a)) (de_is (de_dl (dl_dc rfl nd (dc_map [("_law_line", 9)] (gains m k) numL (fun l => num (getQ l a))
      (fun l => [.d (marketD names m), .d (.int (k : Nat)), .d (numL y), .d (.int 0), .d (numLL (gains m k)), .d (.int (a : Nat)), c6, c7, .no, .d (numL l)]) (di_list (de_var 4 rfl)) gl rfl (fun u hu s H C cl fp => ⟨_, (by decide), dg_name 9 nd, fun B1 e1 => de_at (de_var 9 rfl) (de_var 5 rfl) ?_⟩)))) ?_) da_nil)) ⟨_, _, rfl, dok, ?_, rfl⟩) rfl) ?_
    · obtain ⟨c, _, rfl⟩ := List.mem_map.mp hu
      rw [gainsIn_len]; exact ha
    · show PyData.list _ = numL _
      unfold numL col
      rw [List.map_map]
      rfl
    · unfold col gains
      rw [List.length_map, List.length_map]; exact w1'
    refine dss_seq (ds_set 7 nd (d := ruleD r) (de_ixL (de_rules (de_node (de_nodes (de_var 0 rfl)) (de_var 1 rfl) hk)) (de_var 5 rfl) (atI_map ruleD hr0)) rfl) ?_
    refine dss_one (ds_if (t := false) (dt_is (dt_w (dw_or (dt_w (dw_and (dt_is (dt_cmp cmp_eqS (de_var 7 rfl) de_str) (rule_any r)) fun _ => dw_and1 (dt_cmp cmp_neI (de_n (de_var 6 rfl)) de_int)))
      fun _ => dw_or (dt_w (dw_and (dt_is (dt_cmp cmp_eqS (de_var 7 rfl) de_str) (rule_long r)) fun _ => dw_and1 (dt_cmp cmp_gt (de_n (de_var 6 rfl)) de_int)))
      fun _ => dw_or1 (dt_w (dw_and (dt_is (dt_cmp cmp_eqS (de_var 7 rfl) de_str) (rule_short r)) fun _ => dw_and1 (dt_cmp cmp_lt (de_n (de_var 6 rfl)) de_int))))) ?_) (fun z => nomatch z) (fun _ => dss_nil ⟨_, _, _, rfl⟩))
    rw [n3, n4, n5]
    revert him2
    generalize r = r'
    generalize q = q'
    intro him2
    cases r' with
    | any => simpa [isMean] using him2
    | long =>
      have h : q' ≤ 0 := of_decide_eq_true him2
      have : ¬ 0 < q' := fun z => by grind
      simp [this]
    | short =>
      have h : 0 ≤ q' := of_decide_eq_true him2
      have : ¬ q' < 0 := fun z => by grind
      simp [this]
    | none_ => simp
  · rintro ss' -
    exact dss_one (ds_ret de_bl rfl)
end
end Hk
end
section
set_option Elab.async false
set_option linter.all false
set_option maxRecDepth 100000
set_option maxHeartbeats 4000000
set_option exponentiation.threshold 100000
namespace Hk
open PySem PySem.Spec PyProof.Rows L2
open Evl (Ex)
open Hq
def ratios (ps : List Int) : List Rat := ps.map fun p => Rat.divInt p ps.sum
def partsZ (zs : List Int) (n : Nat) : List Int := (List.range n).map fun k => 1 + zs.getD k 0 % 4
def weightsQ (zs : List Int) (n : Nat) : List Rat := ratios (partsZ zs n)
def plainMenu : List (List (List Int)) := [[[1]], [[1, 1], [1, 3], [3, 1]], [[1, 1, 2], [2, 1, 1], [1, 2, 1]]]
def plainParts (d : Int) (n : Nat) : List Int := (plainMenu.getD (n - 1) []).getD (d % ((plainMenu.getD (n - 1) []).length : Int)).toNat []
def plainQ (d : Int) (n : Nat) : List Rat := ratios (plainParts d n)
def zssD (xs : List (List Int)) : PyData := .list (xs.map zsD)
def R_Lweights (ds : List PyData) (x : PyData) : Prop := ∃ zs n, ds = [zsD zs, .int (n : Nat)] ∧ n ≤ zs.length ∧ n ≤ 100 ∧ x = numL (weightsQ zs n)
def R_Lplain (ds : List PyData) (x : PyData) : Prop := ∃ (d : Int) (n : Nat), ds = [.int d, .int (n : Nat)] ∧ (n = 1 ∨ n = 2 ∨ n = 3) ∧ x = numL (plainQ d n)
def shapes0 : List (List Int) := [[-1, 0, 0], [-1, 0, 0, 0], [-1, 0, 0, 1, 1]]
def shapes1 : List (List Int) := shapes0 ++ [[-1, 0, 0, 0, 2, 2], [-1, 0, 0, 1, 1, 2, 2], [-1, 0, 1, 1], [-1, 0, 0, 0, 0], [-1]]
def shapes2 : List (List Int) := shapes1 ++ [[-1, 0, 0, 0, 1, 1, 1], [-1, 0, 0, 0, 1, 1, 2, 2, 2, 3, 3, 4, 4, 6, 6, 10, 10, 11]]
def shapesOf (a : Nat) : List (List Int) := if 2 < a then shapes0 else if a = 1 then shapes2 ++ [[-1, 0, 0, 0, 0, 0, 0]] else shapes2
def parentsQ (d : Int) (a : Nat) : List Int := (shapesOf a).getD (d % ((shapesOf a).length : Int)).toNat []
def R_Lparents (ds : List PyData) (x : PyData) : Prop := ∃ (d : Int) (a : Nat), ds = [.int d, .int (a : Nat)] ∧ x = zsD (parentsQ d a)
def innerQ (m : Market) : List Nat := (List.range m.nodes.length).filter fun i => decide (0 < (kids m i).length)
def R_Linner (ds : List PyData) (x : PyData) : Prop := ∃ names m, ds = [marketD names m] ∧ WfM names m ∧ x = intsD (innerQ m)
def valueQ (d : Int) : Rat := Rat.divInt (d % 25 - 12) (([1, 1, 2, 3] : List Int).getD (d / 25 % 4).toNat 1)
def valuesQ (zs : List Int) (n : Nat) : List Rat := (List.range n).map fun k => valueQ (zs.getD k 0)
def R_Lvalues (ds : List PyData) (x : PyData) : Prop := ∃ names m k zs, ds = [marketD names m, .int (k : Nat), zsD zs] ∧ WfM names m ∧ (kids m k).length ≤ zs.length ∧ x = numL (valuesQ zs (kids m k).length)
theorem sum_rng : ∀ ps : List Int, (∀ p ∈ ps, 1 ≤ p ∧ p ≤ 4) → (ps.length : Int) ≤ ps.sum ∧ ps.sum ≤ 4 * ps.length
  | [], _ => ⟨Int.le_refl _, Int.le_refl _⟩
  | p :: ps, h => by
    obtain ⟨h1, h2⟩ := sum_rng ps fun q hq => h q (List.mem_cons_of_mem _ hq)
    have h3 := h p List.mem_cons_self
    rw [List.sum_cons, List.length_cons]
    omega
theorem lt9000 {n : Nat} (h : n < 2 ^ 20) : n < 2 ^ 9000 := Nat.lt_of_lt_of_le h (Nat.pow_le_pow_right (by decide) (by decide))
theorem ratio_ok {ps : List Int} (h : ∀ p ∈ ps, 1 ≤ p ∧ p ≤ 4) (hl : ps.length ≤ 1000) : ∀ p ∈ ps, ps.sum ≠ 0 ∧ p.natAbs < 2 ^ 9000 ∧ ps.sum.natAbs < 2 ^ 9000 := fun p hp => by
  obtain ⟨h1, h2⟩ := sum_rng ps h
  have h3 := h p hp
  have h4 : 0 < ps.length := List.length_pos_of_mem hp
  refine ⟨by omega, lt9000 (by omega), lt9000 (by omega)⟩
theorem partsZ_rng (zs : List Int) (n : Nat) : ∀ p ∈ partsZ zs n, 1 ≤ p ∧ p ≤ 4 := fun p hp => by
  obtain ⟨k, _, rfl⟩ := List.mem_map.mp hp
  have h1 := Int.emod_nonneg (zs.getD k 0) (show (4 : Int) ≠ 0 by decide)
  have h2 := Int.emod_lt_of_pos (zs.getD k 0) (show (0 : Int) < 4 by decide)
  omega
theorem getD_mem {α : Type} {xs : List α} {i : Nat} {z : α} (h : i < xs.length) : xs.getD i z ∈ xs := List.mem_of_getElem? (getD_at h)
theorem mod_nat {d : Int} {n : Nat} (h : 0 < n) : ((d % (n : Int)).toNat : Int) = d % (n : Int) ∧ (d % (n : Int)).toNat < n := by
  have h1 := Int.emod_nonneg d (show (n : Int) ≠ 0 by omega)
  have h2 := Int.emod_lt_of_pos d (show (0 : Int) < n by omega)
  omega
theorem plain_rng {d : Int} {n : Nat} (hn : n = 1 ∨ n = 2 ∨ n = 3) : (∀ p ∈ plainParts d n, 1 ≤ p ∧ p ≤ 4) ∧ (plainParts d n).length = n := by
  have hl : 0 < (plainMenu.getD (n - 1) []).length := by rcases hn with rfl | rfl | rfl <;> decide
  have hm : plainParts d n ∈ plainMenu.getD (n - 1) [] := getD_mem (mod_nat hl).2
  have hall : ∀ l ∈ plainMenu.getD (n - 1) [], (∀ p ∈ l, 1 ≤ p ∧ p ≤ 4) ∧ l.length = n := by rcases hn with rfl | rfl | rfl <;> decide
  exact hall _ hm
section
variable {P : Program} {w : World} {K : PySem.W.Frag} {mg : Str → Option Value} {base : Heap}
theorem sc_L_weights : FnScope ["_law_draws_here", "_law_many", "_law_parts", "_law_k", "_law_part"] ["_law_draws_here", "_law_many"] (defScope st_L_weights) := ⟨rfl, rfl, rfl, by decide +kernel, rfl, by decide +kernel, by decide +kernel⟩
theorem fn_L_weights (T : Top K mg) : FnIs P w K mg base "_law_weights" ["_law_draws_here", "_law_many"] 3 R_Lweights := by
  refine mkD (d := dd_L_weights) T 62 rfl rfl rfl sc_L_weights (fun _ _ _ _ _ _ us hl => match us, hl with | [_, _], _ => rfl) (fun f cdv A outer s H E hr ds x hR _ => ?_)
  obtain ⟨zs, n, rfl, hz, hn, rfl⟩ := hR
  have nd := sc_L_weights.nd
  have pl : (partsZ zs n).length = n := by simp [partsZ]
  refine dss_seq (ds_setL 2 nd (dl_dc rfl nd (dc_map [("_law_k", 3)] (List.range n) (fun i => .int (i : Nat)) (fun k => .int (1 + zs.getD k 0 % 4)) (fun i => [.d (zsD zs), .d (.int (n : Nat)), .no, .d (.int (i : Nat)), .no])
    (by rw [← rgD_map]; exact di_rng (T.free _ (by decide)) (de_var 1 rfl) rfl (by omega)) (by rw [List.length_range]; omega) rfl (fun u hu s H C cl fp => ⟨_, (by decide), dg_name 3 nd, fun B1 e1 =>
      de_add de_int (de_mod (de_intI (T.free _ (by decide)) (de_ixL (de_var 0 rfl) (de_var 3 rfl) (atI_map PyData.int (getD_at (z := 0) (Nat.lt_of_lt_of_le (List.mem_range.mp hu) hz))))) de_int (by decide))⟩))) rfl) (dss_frz (i := 2) rfl ?_)
  have ep : (List.range n).map (fun k => PyData.int (1 + zs.getD k 0 % 4)) = (partsZ zs n).map .int := by unfold partsZ; rw [List.map_map]; rfl
  rw [ep]
  have rok := ratio_ok (partsZ_rng zs n) (by omega)
  refine dss_one (ds_ret (de_dl (dl_dc rfl nd (dc_map [("_law_part", 4)] (partsZ zs n) .int (fun p => num (Rat.divInt p (partsZ zs n).sum)) (fun p => [.d (zsD zs), .d (.int (n : Nat)), .d (zsD (partsZ zs n)), .no, .d (.int p)]) (di_list (de_var 2 rfl)) (by omega) rfl
    (fun u hu s H C cl fp => ⟨_, (by decide), dg_name 4 nd, fun B1 e1 => de_call (fn_L_number T) hr (da_cons (de_var 4 rfl) (da_cons (de_sum rfl (T.free _ (by decide)) (de_var 2 rfl)) da_nil)) ⟨_, _, rfl, (rok u hu).1, (rok u hu).2.1, (rok u hu).2.2, rfl⟩⟩)))) ?_)
  show PyData.list _ = numL _
  unfold numL weightsQ ratios
  rw [List.map_map]
  rfl
theorem sc_L_plain_weights : FnScope ["_law_draw", "_law_many", "_law_menu", "_law_parts", "_law_part"] ["_law_draw", "_law_many"] (defScope st_L_plain_weights) := ⟨rfl, rfl, rfl, by decide +kernel, rfl, by decide +kernel, by decide +kernel⟩
theorem de_z0 {X : Cx} {B : Hp} {ss : List SD} : DA X B ss [] (([] : List Int).map PyData.int) := da_nil
theorem fn_L_plain_weights (T : Top K mg) : FnIs P w K mg base "_law_plain_weights" ["_law_draw", "_law_many"] 3 R_Lplain := by
  refine mkD (d := dd_L_plain_weights) T 63 rfl rfl rfl sc_L_plain_weights (fun _ _ _ _ _ _ us hl => match us, hl with | [_, _], _ => rfl) (fun f cdv A outer s H E hr ds x hR _ => ?_)
  obtain ⟨d, n, rfl, hn, rfl⟩ := hR
  have nd := sc_L_plain_weights.nd
  let mn := plainMenu.getD (n - 1) []
  have hl : 0 < mn.length := by rcases hn with rfl | rfl | rfl <;> decide
  have l1 : ∀ {X : Cx} {B : Hp} {ss : List SD} {e : Expr} {p : Pos} {i : Int}, DE X B ss e (.int i) → (he : starEach [e] X.env = (false, eval e X.env) :: starEach [] X.env := by rfl) → DE X B ss (.List [e] p) (zsD [i]) := fun h he => de_dl (dl_lst (da_cons h da_nil he))
  refine dss_seq (ds_set 2 nd (d := zssD mn) (de_ixL (xs := plainMenu.map zssD) (de_dl (dl_lst (da_cons (de_dl (dl_lst (da_cons (de_dl (dl_lst (da_cons de_int da_nil))) da_nil)))
    (da_cons (de_dl (dl_lst (da_cons (de_dl (dl_lst (da_cons de_int (da_cons de_int da_nil)))) (da_cons (de_dl (dl_lst (da_cons de_int (da_cons de_int da_nil)))) (da_cons (de_dl (dl_lst (da_cons de_int (da_cons de_int da_nil)))) da_nil)))))
    (da_cons (de_dl (dl_lst (da_cons (de_dl (dl_lst (da_cons de_int (da_cons de_int (da_cons de_int da_nil))))) (da_cons (de_dl (dl_lst (da_cons de_int (da_cons de_int (da_cons de_int da_nil))))) (da_cons (de_dl (dl_lst (da_cons de_int (da_cons de_int (da_cons de_int da_nil))))) da_nil)))))
    da_nil))))) (de_sub (de_var 1 rfl) de_int) ?_) rfl) ?_
  · have e : ((n : Int) - 1) = ((n - 1 : Nat) : Int) := by omega
    rw [e]
    exact atI_map zssD (getD_at (by rcases hn with rfl | rfl | rfl <;> decide))
  have hmod := mod_nat (d := d) hl
  refine dss_seq (ds_set 3 nd (d := zsD (plainParts d n)) (de_ixL (de_var 2 rfl) (i := ((d % (mn.length : Int)).toNat : Int)) (de_is (de_mod (de_intI (T.free _ (by decide)) (de_var 0 rfl)) (de_lenL (T.free _ (by decide)) (de_var 2 rfl)) (by rw [List.length_map]; omega)) (by rw [List.length_map, hmod.1])) (atI_map zsD (getD_at hmod.2))) rfl) ?_
  obtain ⟨pr, pl⟩ := plain_rng (d := d) hn
  have rok := ratio_ok pr (by rw [pl]; rcases hn with rfl | rfl | rfl <;> decide)
  refine dss_one (ds_ret (de_dl (dl_dc rfl nd (dc_map [("_law_part", 4)] (plainParts d n) .int (fun p => num (Rat.divInt p (plainParts d n).sum)) (fun p => [.d (.int d), .d (.int (n : Nat)), .d (zssD mn), .d (zsD (plainParts d n)), .d (.int p)]) (di_list (de_var 3 rfl)) (by omega) rfl
    (fun u hu s H C cl fp => ⟨_, (by decide), dg_name 4 nd, fun B1 e1 => de_call (fn_L_number T) hr (da_cons (de_var 4 rfl) (da_cons (de_sum rfl (T.free _ (by decide)) (de_var 3 rfl)) da_nil)) ⟨_, _, rfl, (rok u hu).1, (rok u hu).2.1, (rok u hu).2.2, rfl⟩⟩)))) ?_)
  show PyData.list _ = numL _
  unfold numL plainQ ratios
  rw [List.map_map]
  rfl
theorem sc_L_inner : FnScope ["_law_market_here", "_law_k"] ["_law_market_here"] (defScope st_L_inner) := ⟨rfl, rfl, rfl, by decide +kernel, rfl, by decide +kernel, by decide +kernel⟩
theorem fn_L_inner (T : Top K mg) : FnIs P w K mg base "_law_inner" ["_law_market_here"] 2 R_Linner := by
  refine mkD (d := dd_L_inner) T 67 rfl rfl rfl sc_L_inner (fun _ _ _ _ _ _ us hl => match us, hl with | [_], _ => rfl) (fun f cdv A outer s H E hr ds x hR _ => ?_)
  obtain ⟨names, m, rfl, W, rfl⟩ := hR
  have nd := sc_L_inner.nd
  refine dss_one (ds_ret (de_dl (dl_dc rfl nd (dc [("_law_k", 1)] (List.range m.nodes.length) (fun i => .int (i : Nat)) (fun i => decide (0 < (kids m i).length)) (fun i => .int (i : Nat)) (fun i => [.d (marketD names m), .d (.int (i : Nat))])
    (by rw [← rgD_map]; exact di_rng (T.free _ (by decide)) (de_lenL (T.free _ (by decide)) (de_nodes (de_var 0 rfl))) (by rw [List.length_map]) (by have := W.len; omega)) (by have := W.len; rw [List.length_range]; omega) rfl (fun u hu s H C cl fp => ⟨_, (by decide), dg_name 1 nd, fun B1 e1 =>
      ⟨dt_is (dt_cmp cmp_gt (de_lenL (T.free _ (by decide)) (de_call (fn_L_children T) hr (da_cons (de_var 0 rfl) (da_cons (de_var 1 rfl) da_nil)) ⟨_, _, _, rfl, W, rfl⟩)) de_int) (by rw [List.length_map]; exact decide_eq_decide.mpr (by omega)), fun _ => de_var 1 rfl⟩⟩)))) rfl)
theorem sc_L_values : FnScope ["_law_market_here", "_law_node", "_law_draws_here", "_law_k"] ["_law_market_here", "_law_node", "_law_draws_here"] (defScope st_L_values) := ⟨rfl, rfl, rfl, by decide +kernel, rfl, by decide +kernel, by decide +kernel⟩
theorem valden (d : Int) : 1 ≤ (([1, 1, 2, 3] : List Int).getD (d / 25 % 4).toNat 1) ∧ (([1, 1, 2, 3] : List Int).getD (d / 25 % 4).toNat 1) ≤ 3 := by
  have h := (mod_nat (d := d / 25) (n := 4) (by decide)).2
  have : ∀ i, i < 4 → 1 ≤ (([1, 1, 2, 3] : List Int).getD i 1) ∧ (([1, 1, 2, 3] : List Int).getD i 1) ≤ 3 := by decide
  exact this _ h
theorem fn_L_values (T : Top K mg) : FnIs P w K mg base "_law_values" ["_law_market_here", "_law_node", "_law_draws_here"] 3 R_Lvalues := by
  refine mkD (d := dd_L_values) T 72 rfl rfl rfl sc_L_values (fun _ _ _ _ _ _ us hl => match us, hl with | [_, _, _], _ => rfl) (fun f cdv A outer s H E hr ds x hR _ => ?_)
  obtain ⟨names, m, k, zs, rfl, W, hz, rfl⟩ := hR
  have nd := sc_L_values.nd
  have hml := W.len
  have hkl := kids_len m k
  refine dss_one (ds_ret (de_dl (dl_dc rfl nd (dc_map [("_law_k", 3)] (List.range (kids m k).length) (fun i => .int (i : Nat)) (fun i => num (valueQ (zs.getD i 0))) (fun i => [.d (marketD names m), .d (.int (k : Nat)), .d (zsD zs), .d (.int (i : Nat))])
    (by rw [← rgD_map]; exact di_rng (T.free _ (by decide)) (de_lenL (T.free _ (by decide)) (de_call (fn_L_children T) (hr.mono (by decide)) (da_cons (de_var 0 rfl) (da_cons (de_var 1 rfl) da_nil)) ⟨_, _, _, rfl, W, rfl⟩)) (by rw [List.length_map]) (by omega)) (by rw [List.length_range]; omega) rfl (fun u hu s H C cl fp => ⟨_, (by decide), dg_name 3 nd, fun B1 e1 => ?_⟩)))) ?_)
  · have hu' := List.mem_range.mp hu
    let d := zs.getD u 0
    have hix : atI (zs.map PyData.int) (u : Int) = some (.int d) := atI_map PyData.int (getD_at (z := 0) (Nat.lt_of_lt_of_le hu' hz))
    have hmod := mod_nat (d := d / 25) (n := 4) (by decide)
    have hv := valden d
    have m1 := Int.emod_nonneg d (show (25 : Int) ≠ 0 by decide)
    have m2 := Int.emod_lt_of_pos d (show (0 : Int) < 25 by decide)
    refine de_call (fn_L_number T) hr (da_cons (de_sub (de_mod (de_intI (T.free _ (by decide)) (de_ixL (de_var 2 rfl) (de_var 3 rfl) hix)) de_int (by decide)) de_int) (da_cons (d := .int (([1, 1, 2, 3] : List Int).getD (d / 25 % 4).toNat 1)) (de_ixL (xs := ([1, 1, 2, 3] : List Int).map .int) (i := ((d / 25 % 4).toNat : Int)) (de_dl (dl_lst (da_cons de_int (da_cons de_int (da_cons de_int (da_cons de_int da_nil)))))) (de_is (de_mod (de_intI (T.free _ (by decide)) (de_fdiv (de_ixL (de_var 2 rfl) (de_var 3 rfl) hix) de_int ⟨by decide, by decide⟩)) de_int (by decide)) ?_) (atI_map PyData.int (getD_at hmod.2))) da_nil)) ⟨_, _, rfl, by omega, lt9000 (by omega), lt9000 (by omega), rfl⟩
    exact congrArg PyData.int hmod.1.symm
  · show PyData.list _ = numL _
    unfold numL valuesQ
    rw [List.map_map]
    rfl
end
end Hk
end
section
set_option Elab.async false
set_option linter.all false
set_option maxRecDepth 100000
set_option maxHeartbeats 4000000
set_option exponentiation.threshold 100000
namespace Hk
open PySem PySem.Spec PyProof.Rows L2
open Evl (Ex)
open Hq
def won (m : Market) (k i : Nat) : List Rat := (gains m k).getD i []
structure CovF (m : Market) (k : Nat) (values : List Rat) (wl : Rat) (hs : List Rat) : Prop where
  keeps : Keeps m k hs
  len : values.length = (kids m k).length
  vs : AllSm 4400 values
  ws : Sm 4400 wl
  gw : Sm 4400 ((nodeAt m k).g * wl)
  dot : ∀ i, i < (kids m k).length → DotOk hs (won m k i) ∧ Sm 4400 ((nodeAt m k).g * wl + dotQ hs (won m k i)) ∧ getQ values i ≤ (nodeAt m k).g * wl + dotQ hs (won m k i)
def R_Lcovers (ds : List PyData) (x : PyData) : Prop := ∃ names m k values wl hs, ds = [marketD names m, .int (k : Nat), numL values, num wl, numL hs] ∧ WfM names m ∧ k < m.nodes.length ∧ CovF m k values wl hs ∧ x = .bool true
structure PaperF (m : Market) (k : Nat) (values : List Rat) (c : Rat) (ws hs : List Rat) : Prop where
  wl : ws.length < 1000
  wsum : SumOk ws
  wmean : MeansOk m k ws
  wis : isWeights m k ws = true
  wdot : DotOk ws values
  g0 : (nodeAt m k).g ≠ 0
  cost : dotQ ws values / (nodeAt m k).g = c
  cov : CovF m k values c hs
def R_Lright (ds : List PyData) (x : PyData) : Prop := ∃ names m k values c ws hs, ds = [marketD names m, .int (k : Nat), numL values, paperD c ws hs] ∧ WfM names m ∧ k < m.nodes.length ∧ PaperF m k values c ws hs ∧ x = .bool true
def negL (xs : List Rat) : List Rat := xs.map fun q => -q
def R_Lloan (ds : List PyData) (x : PyData) : Prop := ∃ names m k values c ws hs, ds = [marketD names m, .int (k : Nat), numL values, paperD c ws hs] ∧ WfM names m ∧ k < m.nodes.length ∧ values.length < 1000 ∧ PaperF m k (negL values) (-c) ws hs ∧ x = .bool true
def R_Lpaper (ds : List PyData) (x : PyData) : Prop := ∃ names m k c ws hs, ds = [marketD names m, .int (k : Nat), paperD c ws hs] ∧ WfM names m ∧ Sm 4400 c ∧ AllSm 4400 ws ∧ AllSm 4400 hs ∧ ws.length = (kids m k).length ∧ hs.length = m.many ∧ x = .bool true
/-! texts -/
def signsS : Str := "abcdefghijklmnopqrstuvwxyz0123456789"
def letS (z : Str) (i : Nat) : Str := ⟨#[z.cps.toList.getD i 0]⟩
def poolSize (a : Int) : Nat := if a % 9 = 8 then 11 else (a % 4).toNat
def poolText (a b : Int) : Str := Txt.join (Str.ofString "") ((List.range (poolSize a)).map fun (k : Nat) => letS signsS ((a + 7 * (k : Int) * (1 + b % 3)) % 36).toNat)
def poolAt (a b : Int) : Nat := (b % (poolSize a + 1 : Nat)).toNat
def poolOne (a b : Int) (k : Nat) : Str := (cutS (poolText a b) none (some (poolAt a b)) ++ letS signsS ((b + (1 + 4 * (b / 4 % 2)) * k) % 36).toNat) ++ cutS (poolText a b) (some (poolAt a b)) none
def R_Lpool (ds : List PyData) (x : PyData) : Prop := ∃ (a b : Int) (n : Nat), ds = [.int a, .int b, .int (n : Nat)] ∧ 0 ≤ a ∧ a < 1000 ∧ 0 ≤ b ∧ b < 1000 ∧ n ≤ 100 ∧ x = .list ((List.range n).map fun k => .str (poolOne a b k))
theorem signs_len : signsS.cps.toList.length = 36 := by decide +kernel
theorem letS_len (z : Str) (i : Nat) : (letS z i).length = 1 := rfl
theorem let_at {z : Str} {i : Nat} (h : i < z.cps.toList.length) : atI z.cps.toList (i : Int) = some (z.cps.toList.getD i 0) := atI_nat (getD_at h)
theorem poolText_len (a b : Int) : (poolText a b).length = poolSize a := by
  unfold poolText
  rw [PySem.W.KT.join_ones]
  · simp
  · intro x hx
    obtain ⟨k, _, rfl⟩ := List.mem_map.mp hx
    rfl
theorem poolSize_le (a : Int) : poolSize a ≤ 11 := by
  unfold poolSize
  have := (mod_nat (d := a) (n := 4) (by decide)).2
  split
  · exact Nat.le_refl _
  · omega
theorem poolOne_len (a b : Int) (k : Nat) : (poolOne a b k).length ≤ 23 := by
  unfold poolOne
  rw [PySem.Str.length_append, PySem.Str.length_append, letS_len]
  have h1 := cutS_length (poolText a b) none (some (poolAt a b))
  have h2 := cutS_length (poolText a b) (some (poolAt a b)) none
  have h3 := poolSize_le a
  rw [poolText_len] at h1 h2
  omega
section
variable {P : Program} {w : World} {K : PySem.W.Frag} {mg : Str → Option Value} {base : Heap}
theorem sc_L_parents : FnScope ["_law_draw", "_law_assets", "_law_shapes"] ["_law_draw", "_law_assets"] (defScope st_L_parents) := ⟨rfl, rfl, rfl, by decide +kernel, rfl, by decide +kernel, by decide +kernel⟩
theorem fn_L_parents (T : Top K mg) : FnIs P w K mg base "_law_parents" ["_law_draw", "_law_assets"] 1 R_Lparents := by
  refine mkD (d := dd_L_parents) T 64 rfl rfl rfl sc_L_parents (fun _ _ _ _ _ _ us hl => match us, hl with | [_, _], _ => rfl) (fun f cdv A outer s H E hr ds x hR _ => ?_)
  obtain ⟨d, a, rfl, rfl⟩ := hR
  have nd := sc_L_parents.nd
  refine dss_seq (ds_setL (ds := shapes0.map zsD) 2 nd (dl_lst (da_cons (de_dl (dl_lst (da_cons (de_neg de_int) (da_cons de_int (da_cons de_int da_nil))))) (da_cons (de_dl (dl_lst (da_cons (de_neg de_int) (da_cons de_int (da_cons de_int (da_cons de_int da_nil)))))) (da_cons (de_dl (dl_lst (da_cons (de_neg de_int) (da_cons de_int (da_cons de_int (da_cons de_int (da_cons de_int da_nil))))))) da_nil)))) rfl) (dss_frz (i := 2) rfl ?_)
  refine dss_cons (mid := fun z => z = [.d (.int d), .d (.int (a : Nat)), .d (.list (shapes0.map zsD))] ∧ ¬ 2 < a) (ds_if (t := decide (2 < a)) (dt_is (dt_cmp cmp_gt (de_var 1 rfl) de_int) (decide_eq_decide.mpr (by omega))) (fun h => dss_end (ds_ret (de_ixL (de_var 2 rfl) (i := ((d % 3).toNat : Int)) (de_is (de_mod (de_intI (T.free _ (by decide)) (de_var 0 rfl)) de_int (by decide)) ?_) (atI_map zsD (getD_at (z := []) ?_))) ?_)) (fun h => dss_nil ⟨rfl, of_decide_eq_false h⟩)) ?_
  · exact congrArg PyData.int (mod_nat (d := d) (n := 3) (by decide)).1.symm
  · exact (mod_nat (d := d) (n := 3) (by decide)).2
  · have h' := of_decide_eq_true h
    show zsD _ = zsD (parentsQ d a)
    unfold parentsQ shapesOf
    rw [if_pos h']
    rfl
  rintro ss' ⟨rfl, ha⟩
  refine dss_seq (ds_setL (ds := shapes1.map zsD) 2 nd (dl_cat (xs := shapes0.map zsD) (ys := ([[-1, 0, 0, 0, 2, 2], [-1, 0, 0, 1, 1, 2, 2], [-1, 0, 1, 1], [-1, 0, 0, 0, 0], [-1]] : List (List Int)).map zsD) (de_var 2 rfl) (de_dl (dl_lst (da_cons (de_dl (dl_lst (da_cons (de_neg de_int) (da_cons de_int (da_cons de_int (da_cons de_int (da_cons de_int (da_cons de_int da_nil)))))))) (da_cons (de_dl (dl_lst (da_cons (de_neg de_int) (da_cons de_int (da_cons de_int (da_cons de_int (da_cons de_int (da_cons de_int (da_cons de_int da_nil))))))))) (da_cons (de_dl (dl_lst (da_cons (de_neg de_int) (da_cons de_int (da_cons de_int (da_cons de_int da_nil)))))) (da_cons (de_dl (dl_lst (da_cons (de_neg de_int) (da_cons de_int (da_cons de_int (da_cons de_int (da_cons de_int da_nil))))))) (da_cons (de_dl (dl_lst (da_cons (de_neg de_int) da_nil))) da_nil))))))) (Evl.sz_of (by decide))) rfl) (dss_frz (i := 2) rfl ?_)
  refine dss_seq (ds_setL (ds := shapes2.map zsD) 2 nd (dl_cat (xs := shapes1.map zsD) (ys := ([[-1, 0, 0, 0, 1, 1, 1], [-1, 0, 0, 0, 1, 1, 2, 2, 2, 3, 3, 4, 4, 6, 6, 10, 10, 11]] : List (List Int)).map zsD) (de_var 2 rfl) (de_dl (dl_lst (da_cons (de_dl (dl_lst (da_cons (de_neg de_int) (da_cons de_int (da_cons de_int (da_cons de_int (da_cons de_int (da_cons de_int (da_cons de_int da_nil))))))))) (da_cons (de_dl (dl_lst (da_cons (de_neg de_int) (da_cons de_int (da_cons de_int (da_cons de_int (da_cons de_int (da_cons de_int (da_cons de_int (da_cons de_int (da_cons de_int (da_cons de_int (da_cons de_int (da_cons de_int (da_cons de_int (da_cons de_int (da_cons de_int (da_cons de_int (da_cons de_int (da_cons de_int da_nil)))))))))))))))))))) da_nil)))) (Evl.sz_of (by decide))) rfl) ?_
  refine dss_cons (mid := fun z => z = [.d (.int d), .d (.int (a : Nat)), .m ((shapesOf a).map zsD)]) (ds_if (t := decide (a = 1)) (dt_is (dt_cmp cmp_eqI (de_var 1 rfl) de_int) (decide_eq_decide.mpr (by omega))) (fun h => dss_one (ds_app 2 rfl (d := zsD [-1, 0, 0, 0, 0, 0, 0]) (de_dl (dl_lst (da_cons (de_neg de_int) (da_cons de_int (da_cons de_int (da_cons de_int (da_cons de_int (da_cons de_int (da_cons de_int da_nil))))))))) (by decide) ?_)) (fun h => dss_nil ?_)) ?_
  · have h' := of_decide_eq_true h
    unfold shapesOf
    rw [if_neg ha, if_pos h', List.map_append]
    rfl
  · have h' := of_decide_eq_false h
    unfold shapesOf
    rw [if_neg ha, if_neg h']
    rfl
  rintro ss' rfl
  have hl : 0 < (shapesOf a).length := by
    unfold shapesOf
    rw [if_neg ha]
    split <;> decide
  have hmod := mod_nat (d := d) hl
  refine dss_frz (i := 2) rfl (dss_one (ds_ret (de_ixL (de_var 2 rfl) (i := ((d % ((shapesOf a).length : Int)).toNat : Int)) (de_is (de_mod (de_intI (T.free _ (by decide)) (de_var 0 rfl)) (de_lenL (T.free _ (by decide)) (de_var 2 rfl)) (by rw [List.length_map]; omega)) (by rw [List.length_map, hmod.1])) (atI_map zsD (getD_at (z := []) hmod.2))) rfl))
theorem sc_L_covers : FnScope ["_law_market_here", "_law_node", "_law_values_here", "_law_wealth", "_law_holdings", "_law_base", "_law_won", "_law_k"] ["_law_market_here", "_law_node", "_law_values_here", "_law_wealth", "_law_holdings"] (defScope st_L_covers) := ⟨rfl, rfl, rfl, by decide +kernel, rfl, by decide +kernel, by decide +kernel⟩
theorem won_len {m : Market} {k i : Nat} (h : i < (kids m k).length) : (won m k i).length = m.many := by
  have : won m k i ∈ gains m k := getD_mem (by unfold gains; rw [List.length_map]; exact h)
  obtain ⟨c, _, e⟩ := List.mem_map.mp this
  rw [← e, gainsIn_len]
theorem fn_L_covers (T : Top K mg) : FnIs P w K mg base "_law_covers" ["_law_market_here", "_law_node", "_law_values_here", "_law_wealth", "_law_holdings"] 6 R_Lcovers := by
  refine mkD (d := dd_L_covers) T 68 rfl rfl rfl sc_L_covers (fun _ _ _ _ _ _ us hl => match us, hl with | [_, _, _, _, _], _ => rfl) (fun f cdv A outer s H E hr ds x hR _ => ?_)
  obtain ⟨names, m, k, values, wl, hs, rfl, W, hk, ok, rfl⟩ := hR
  have nd := sc_L_covers.nd
  have w1 := W.at_ hk
  have gl : (gains m k).length = (kids m k).length := by unfold gains; rw [List.length_map]
  have kl : (kids m k).length ≤ 60 := Nat.le_trans (kids_len m k) W.len
  have hvl := ok.len
  refine dss_seq (ds_if (t := false) (dt_not (c := true) (dt_val (de_call (fn_L_keeps_rules T) (hr.mono (by decide)) (da_cons (de_var 0 rfl) (da_cons (de_var 1 rfl) (da_cons (de_var 4 rfl) da_nil))) ⟨_, _, _, _, rfl, W, hk, ok.keeps, rfl⟩))) (fun z => nomatch z) (fun _ => dss_nil rfl)) ?_
  refine dss_seq (ds_set 5 nd (de_call (fn_L_times T) (hr.mono (by decide)) (da_cons (de_growth (de_node (de_nodes (de_var 0 rfl)) (de_var 1 rfl) hk)) (da_cons (de_var 3 rfl) da_nil)) ⟨_, _, rfl, w1.g.mono (by decide), ok.ws, trivial, rfl⟩) rfl) ?_
  refine dss_seq (ds_set 6 nd (de_call (fn_L_gains T) hr (da_cons (de_var 0 rfl) (da_cons (de_var 1 rfl) da_nil)) ⟨_, _, _, rfl, W, hk, rfl⟩) rfl) ?_
  let st : SD → List SD := fun c7 => [.d (marketD names m), .d (.int (k : Nat)), .d (numL values), .d (num wl), .d (numL hs), .d (num ((nodeAt m k).g * wl)), .d (numLL (gains m k)), c7]
  refine dss_cons (mid := fun _ => True) (ds_for PassesOwn.never rfl (di_rng (m := values.length) (T.free _ (by decide)) (de_lenL (T.free _ (by decide)) (de_var 2 rfl)) (by rw [List.length_map]) (by omega)) (fun j z => ∃ c7, z = st c7) ⟨.no, rfl⟩ ?_ (fun _ _ => trivial)) ?_
  · rintro i d ss' hd ⟨c7, rfl⟩
    obtain ⟨rfl, hi⟩ := rgD_get hd
    rw [Int.zero_add]
    have hi' : i < (kids m k).length := by omega
    obtain ⟨o1, o2, o3⟩ := ok.dot i hi'
    have nlt : decide ((nodeAt m k).g * wl + dotQ hs (won m k i) < getQ values i) = false := decide_eq_false fun z => by grind
    refine ⟨_, _, dg_name 7 nd, fun B1 e1 => dss_one (ds_if (t := false) (dt_is (dt_val (de_call (fn_L_less T) (hr.mono (by decide)) (da_cons (de_call (fn_L_plus T) (hr.mono (by decide)) (da_cons (de_var 5 rfl) (da_cons (de_call (fn_L_dot T) hr (da_cons (de_var 4 rfl) (da_cons (de_atL (de_var 6 rfl) (de_var 7 rfl) (by rw [gl]; exact hi')) da_nil)) ⟨_, _, rfl, o1, by rw [ok.keeps.1]; exact (won_len hi').symm, rfl⟩) da_nil)) ⟨_, _, rfl, ok.gw, o1.sm, trivial, rfl⟩) (da_cons (de_at (de_var 2 rfl) (de_var 7 rfl) hi) da_nil)) ⟨_, _, rfl, o2, ok.vs _ (getQ_mem hi), trivial, rfl⟩)) nlt) (fun z => nomatch z) (fun _ => dss_nil ⟨_, rfl⟩))⟩
  · rintro ss' -
    exact dss_one (ds_ret de_bl rfl)
theorem sc_L_cost_right : FnScope ["_law_market_here", "_law_node", "_law_values_here", "_law_paper", "_law_cost", "_law_numbers", "_law_holdings"] ["_law_market_here", "_law_node", "_law_values_here", "_law_paper"] (defScope st_L_cost_right) := ⟨rfl, rfl, rfl, by decide +kernel, rfl, by decide +kernel, by decide +kernel⟩
theorem fn_L_cost_right (T : Top K mg) : FnIs P w K mg base "_law_cost_right" ["_law_market_here", "_law_node", "_law_values_here", "_law_paper"] 7 R_Lright := by
  refine mkD (d := dd_L_cost_right) T 69 rfl rfl rfl sc_L_cost_right (fun _ _ _ _ _ _ us hl => match us, hl with | [_, _, _, _], _ => rfl) (fun f cdv A outer s H E hr ds x hR _ => ?_)
  obtain ⟨names, m, k, values, c, ws, hs, rfl, W, hk, ok, rfl⟩ := hR
  have nd := sc_L_cost_right.nd
  have w1 := W.at_ hk
  have hws := (isW_of ok.wis).len
  refine dss_seq (ds_asg (d := paperD c ws hs) (de_var 3 rfl) (dg_tup rfl (dgs_cons (dg_name 4 nd) (dgs_cons (dg_name 5 nd) (dgs_cons (dg_name 6 nd) dgs_nil)))) rfl) ?_
  refine dss_seq (ds_if (t := false) (dt_is (dt_w (dw_or (c := false) (dt_not (c := true) (dt_val (de_call (fn_L_is_weights T) hr (da_cons (de_var 0 rfl) (da_cons (de_var 1 rfl) (da_cons (de_var 5 rfl) (da_cons de_int da_nil)))) ⟨_, _, _, _, rfl, W, hk, ok.wl, ok.wsum, ok.wmean, ok.wis, rfl⟩)))
    fun _ => dw_or1 (dt_cmp cmp_neI (de_lenL (T.free _ (by decide)) (de_var 6 rfl)) (de_lenL (T.free _ (by decide)) (de_assets (de_var 0 rfl)))))) ?_) (fun z => nomatch z) (fun _ => dss_nil rfl)) ?_
  · rw [List.length_map, ok.cov.keeps.1, W.nl]; simp
  refine dss_seq (ds_if (t := false) (dt_is (dt_cmp (cmp_neN (q := dotQ ws values / (nodeAt m k).g) (r := c) hr.units) (de_call (fn_L_over T) (hr.mono (by decide)) (da_cons (de_call (fn_L_dot T) (hr.mono (by decide)) (da_cons (de_var 5 rfl) (da_cons (de_var 2 rfl) da_nil)) ⟨_, _, rfl, ok.wdot, by rw [hws, ok.cov.len], rfl⟩) (da_cons (de_growth (de_node (de_nodes (de_var 0 rfl)) (de_var 1 rfl) hk)) da_nil)) ⟨_, _, rfl, ok.wdot.sm, w1.g.mono (by decide), ok.g0, rfl⟩) (de_var 4 rfl)) (by rw [ok.cost]; simp)) (fun z => nomatch z) (fun _ => dss_nil rfl)) ?_
  exact dss_one (ds_ret (de_call (fn_L_covers T) hr (da_cons (de_var 0 rfl) (da_cons (de_var 1 rfl) (da_cons (de_var 2 rfl) (da_cons (de_var 4 rfl) (da_cons (de_var 6 rfl) da_nil))))) ⟨_, _, _, _, _, _, rfl, W, hk, ok.cov, rfl⟩) rfl)
theorem sc_L_loan_right : FnScope ["_law_market_here", "_law_node", "_law_values_here", "_law_paper", "_law_turned", "_law_one"] ["_law_market_here", "_law_node", "_law_values_here", "_law_paper"] (defScope st_L_loan_right) := ⟨rfl, rfl, rfl, by decide +kernel, rfl, by decide +kernel, by decide +kernel⟩
theorem de_ngn {X : Cx} {B : Hp} {ss : List SD} {e e2 : Expr} {q : Rat} {p p1 p2 p3 p4 p5 : Pos} {j j1 j2 : Nat} (h : DE X B ss e (num q)) (h2 : DE X B ss e2 (num q)) (hs : starEach [.UnaryOp .USub (.Subscript e (.Constant (.int 0) j1 p1) p2) p3, .Subscript e2 (.Constant (.int 1) j2 p4) p5] X.env = (false, eval (.UnaryOp .USub (.Subscript e (.Constant (.int 0) j1 p1) p2) p3) X.env) :: starEach [.Subscript e2 (.Constant (.int 1) j2 p4) p5] X.env := by rfl) (hs2 : starEach [.Subscript e2 (.Constant (.int 1) j2 p4) p5] X.env = (false, eval (.Subscript e2 (.Constant (.int 1) j2 p4) p5) X.env) :: starEach [] X.env := by rfl) :
    DE X B ss (.Tuple [.UnaryOp .USub (.Subscript e (.Constant (.int 0) j1 p1) p2) p3, .Subscript e2 (.Constant (.int 1) j2 p4) p5] j p) (num (-q)) := de_is (de_tup (da_cons (de_neg (de_n h)) (da_cons (de_d h2) da_nil hs2) hs)) (num_neg q).symm
theorem fn_L_loan_right (T : Top K mg) : FnIs P w K mg base "_law_loan_right" ["_law_market_here", "_law_node", "_law_values_here", "_law_paper"] 8 R_Lloan := by
  refine mkD (d := dd_L_loan_right) T 70 rfl rfl rfl sc_L_loan_right (fun _ _ _ _ _ _ us hl => match us, hl with | [_, _, _, _], _ => rfl) (fun f cdv A outer s H E hr ds x hR _ => ?_)
  obtain ⟨names, m, k, values, c, ws, hs, rfl, W, hk, hl, ok, rfl⟩ := hR
  have nd := sc_L_loan_right.nd
  refine dss_seq (ds_setC 4 rfl nd (dc_map [("_law_one", 5)] values num (fun q => num (-q)) (fun q => [.d (marketD names m), .d (.int (k : Nat)), .d (numL values), .d (paperD c ws hs), .no, .d (num q)]) (di_list (de_var 2 rfl)) (by omega) rfl
    (fun u hu s H C cl fp => ⟨_, (by decide), dg_name 5 nd, fun B1 e1 => de_ngn (de_var 5 rfl) (de_var 5 rfl)⟩)) rfl rfl) (dss_frz (i := 4) rfl ?_)
  have ev : values.map (fun q => num (-q)) = (negL values).map num := by unfold negL; rw [List.map_map]; rfl
  rw [ev]
  exact dss_one (ds_ret (de_call (fn_L_cost_right T) hr (da_cons (de_var 0 rfl) (da_cons (de_var 1 rfl) (da_cons (d := numL (negL values)) (de_var 4 rfl) (da_cons (d := paperD (-c) ws hs) (de_tup (da_cons (de_ngn (de_ixT (xs := [num c, numL ws, numL hs]) (de_var 3 rfl) de_int rfl) (de_ixT (xs := [num c, numL ws, numL hs]) (de_var 3 rfl) de_int rfl)) (da_cons (de_ixT (xs := [num c, numL ws, numL hs]) (de_var 3 rfl) de_int rfl) (da_cons (de_ixT (xs := [num c, numL ws, numL hs]) (de_var 3 rfl) de_int rfl) da_nil)))) da_nil)))) ⟨_, _, _, _, _, _, _, rfl, W, hk, ok, rfl⟩) rfl)
theorem sc_L_is_paper : FnScope ["_law_market_here", "_law_node", "_law_paper"] ["_law_market_here", "_law_node", "_law_paper"] (defScope st_L_is_paper) := ⟨rfl, rfl, rfl, by decide +kernel, rfl, by decide +kernel, by decide +kernel⟩
theorem fn_L_is_paper (T : Top K mg) : FnIs P w K mg base "_law_is_paper" ["_law_market_here", "_law_node", "_law_paper"] 4 R_Lpaper := by
  refine mkD (d := dd_L_is_paper) T 71 rfl rfl rfl sc_L_is_paper (fun _ _ _ _ _ _ us hl => match us, hl with | [_, _, _], _ => rfl) (fun f cdv A outer s H E hr ds x hR _ => ?_)
  obtain ⟨names, m, k, c, ws, hs, rfl, W, sc, sw, sh, lw, lh, rfl⟩ := hR
  have kl : (kids m k).length ≤ 60 := Nat.le_trans (kids_len m k) W.len
  have hm := W.many
  refine dss_seq (ds_if (t := false) (dt_w (dw_or (c := false) (c' := false) (dt_not (c := true) (dt_val (de_isi (Ts := "tuple") (S := "tuple") (bb := true) (T.free _ (by decide)) (T.free _ (by decide)) (by decide +kernel) (de_var 2 rfl) (fun H v h => ty_tuple h) (by decide +kernel))))
    fun _ => dw_or (c := false) (c' := false) (dt_cmp cmp_neI (de_lenT (xs := [num c, numL ws, numL hs]) (T.free _ (by decide)) (de_var 2 rfl)) de_int) fun _ => dw_or1 (dt_not (c := true) (dt_val (de_call (fn_L_is_number T) (hr.mono (by decide)) (da_cons (de_ixT (xs := [num c, numL ws, numL hs]) (de_var 2 rfl) de_int rfl) da_nil) ⟨_, rfl, sc, rfl⟩))))) (fun z => nomatch z) (fun _ => dss_nil rfl)) ?_
  exact dss_one (ds_ret (de_and (c := true) (c' := true) (de_call (fn_L_is_list T) hr (da_cons (d := numL ws) (de_ixT (xs := [num c, numL ws, numL hs]) (de_var 2 rfl) de_int rfl) (da_cons (d := .int (ws.length : Nat)) (de_is (de_lenL (T.free _ (by decide)) (de_call (fn_L_children T) (hr.mono (by decide)) (da_cons (de_var 0 rfl) (da_cons (de_var 1 rfl) da_nil)) ⟨_, _, _, rfl, W, rfl⟩)) (by rw [List.length_map, lw])) da_nil)) ⟨_, rfl, sw, by omega, rfl⟩)
    fun _ => de_one (de_call (fn_L_is_list T) hr (da_cons (d := numL hs) (de_ixT (xs := [num c, numL ws, numL hs]) (de_var 2 rfl) de_int rfl) (da_cons (d := .int (hs.length : Nat)) (de_is (de_lenL (T.free _ (by decide)) (de_assets (de_var 0 rfl))) (by rw [W.nl, lh])) da_nil)) ⟨_, rfl, sh, by omega, rfl⟩)) rfl)
end
end Hk
end
section
set_option Elab.async false
set_option linter.all false
set_option maxRecDepth 100000
set_option maxHeartbeats 4000000
set_option exponentiation.threshold 100000
namespace Hk
open PySem PySem.Spec PyProof.Rows L2
open Evl (Ex)
open Hq
section
variable {P : Program} {w : World} {K : PySem.W.Frag} {mg : Str → Option Value} {base : Heap}
theorem sc_L_pool : FnScope ["_law_first", "_law_second", "_law_many", "_law_signs", "_law_size", "_law_text", "_law_place", "_law_step", "_law_k"] ["_law_first", "_law_second", "_law_many"] (defScope st_L_pool) := ⟨rfl, rfl, rfl, by decide +kernel, rfl, by decide +kernel, by decide +kernel⟩
theorem sz36 : signsS.length ≤ sizeLine := by decide +kernel
theorem fn_L_pool (T : Top K mg) : FnIs P w K mg base "_law_pool" ["_law_first", "_law_second", "_law_many"] 1 R_Lpool := by
  refine mkD (d := dd_L_pool) T 44 rfl rfl rfl sc_L_pool (fun _ _ _ _ _ _ us hl => match us, hl with | [_, _, _], _ => rfl) (fun f cdv A outer s H E hr ds x hR _ => ?_)
  obtain ⟨a, b, n, rfl, a0, a1, b0, b1, hn, rfl⟩ := hR
  have nd := sc_L_pool.nd
  have m3 := mod_nat (d := b) (n := 3) (by decide)
  refine dss_seq (ds_set 3 nd (d := .str signsS) de_str rfl) (dss_seq (ds_set 4 nd (de_mod (de_intI (T.free _ (by decide)) (de_var 0 rfl)) de_int (by decide)) rfl) ?_)
  let st : SD → SD → SD → SD → List SD := fun c4 c5 c6 c7 => [.d (.int a), .d (.int b), .d (.int (n : Nat)), .d (.str signsS), c4, c5, c6, c7, .no]
  refine dss_cons (mid := fun z => z = st (.d (.int (poolSize a : Nat))) .no .no .no) (ds_if (dt_cmp cmp_eqI (de_mod (de_intI (T.free _ (by decide)) (de_var 0 rfl)) de_int (by decide)) de_int) (fun h => dss_one (ds_set 4 nd de_int ?_)) (fun h => dss_nil ?_)) ?_
  · unfold poolSize
    rw [if_pos (of_decide_eq_true h)]
    rfl
  · unfold poolSize
    have e4 : (((a % 4).toNat : Nat) : Int) = a % 4 := (mod_nat (d := a) (n := 4) (by decide)).1
    rw [if_neg (of_decide_eq_false h), e4]
    rfl
  rintro ss' rfl
  have ps := poolSize_le a
  let lt : Nat → Nat := fun k => ((a + 7 * (k : Int) * (1 + b % 3)) % 36).toNat
  have hlt : ∀ k, ((lt k : Nat) : Int) = (a + 7 * (k : Int) * (1 + b % 3)) % 36 ∧ lt k < signsS.cps.toList.length := fun k => by
    rw [signs_len]; exact mod_nat (n := 36) (by decide)
  refine dss_seq (ds_set 5 nd (d := .str (poolText a b)) (de_join (z := Str.ofString "") (ts := (List.range (poolSize a)).map fun k => letS signsS (lt k)) de_str (de_is (de_dl (dl_dc rfl nd (dc_map [("_law_k", 8)] (List.range (poolSize a)) (fun i => .int (i : Nat)) (fun k => .str (letS signsS (lt k))) (fun k => [.d (.int a), .d (.int b), .d (.int (n : Nat)), .d (.str signsS), .d (.int (poolSize a : Nat)), .no, .no, .no, .d (.int (k : Nat))])
    (by rw [← rgD_map]; exact di_rng (T.free _ (by decide)) (de_var 4 rfl) rfl (by omega)) (by rw [List.length_range]; omega) rfl (fun u hu s H C cl fp => ⟨_, (by decide), dg_name 8 nd, fun B1 e1 => ?_⟩)))) (by rw [List.map_map]; rfl)) ?_) rfl) ?_
  · refine de_ixS (i := ((lt u : Nat) : Int)) (de_var 3 rfl) (de_is (de_mod (de_intI (T.free _ (by decide)) (de_add (de_var 0 rfl) (de_mul64 (de_mul64 de_int (de_var 8 rfl) (.inl ⟨by decide, by decide⟩)) (de_add de_int (de_mod (de_intI (T.free _ (by decide)) (de_var 1 rfl)) de_int (by decide))) (.inr ⟨?_, ?_⟩)))) de_int (by decide)) (congrArg PyData.int (hlt u).1.symm)) sz36 (let_at (hlt u).2)
    · have := m3.1; have := m3.2; have : (2 : Int) ^ 64 = 18446744073709551616 := by decide
      omega
    · have := m3.1; have := m3.2; have : (2 : Int) ^ 64 = 18446744073709551616 := by decide
      omega
  · have e : ((List.range (poolSize a)).map fun k => letS signsS (lt k)).map (·.length) = (List.range (poolSize a)).map fun _ => 1 := by rw [List.map_map]; rfl
    rw [e, List.map_const', List.sum_replicate_nat, List.length_range, List.length_map, List.length_range]
    show poolSize a * 1 + poolSize a * 0 ≤ _
    omega
  have mp := mod_nat (d := b) (n := poolSize a + 1) (by omega)
  refine dss_seq (ds_set 6 nd (d := .int (poolAt a b : Nat)) (de_is (de_mod (de_intI (T.free _ (by decide)) (de_var 1 rfl)) (de_add (de_var 4 rfl) de_int) (by omega)) (by unfold poolAt; rw [mp.1]; rfl)) rfl) ?_
  refine dss_seq (ds_set 7 nd (de_add de_int (de_mul64 de_int (de_mod (de_intI (T.free _ (by decide)) (de_fdiv (de_var 1 rfl) de_int ⟨by decide, by decide⟩)) de_int (by decide)) (.inl ⟨by decide, by decide⟩))) rfl) ?_
  have tl : (poolText a b).length ≤ 11 := by rw [poolText_len]; exact ps
  have m2 := mod_nat (d := b / 4) (n := 2) (by decide)
  have c1 := cutS_length (poolText a b) none (some (poolAt a b))
  have c2 := cutS_length (poolText a b) (some (poolAt a b)) none
  refine dss_one (ds_ret (de_dl (dl_dc rfl nd (dc_map [("_law_k", 8)] (List.range n) (fun i => .int (i : Nat)) (fun k => .str (poolOne a b k)) (fun k => [.d (.int a), .d (.int b), .d (.int (n : Nat)), .d (.str signsS), .d (.int (poolSize a : Nat)), .d (.str (poolText a b)), .d (.int (poolAt a b : Nat)), .d (.int (1 + 4 * (b / 4 % 2))), .d (.int (k : Nat))])
    (by rw [← rgD_map]; exact di_rng (T.free _ (by decide)) (de_var 2 rfl) rfl (by omega)) (by rw [List.length_range]; omega) rfl (fun u hu s H C cl fp => ⟨_, (by decide), dg_name 8 nd, fun B1 e1 => ?_⟩)))) rfl)
  have mu := mod_nat (d := b + (1 + 4 * (b / 4 % 2)) * (u : Int)) (n := 36) (by decide)
  have z1 : (poolText a b).length ≤ sizeLine := Evl.sz_of (by omega)
  have p64 : (2 : Int) ^ 64 = 18446744073709551616 := by decide
  refine de_adds (de_adds (de_sliceS (de_var 5 rfl) do_none (do_some (de_var 6 rfl)) z1) (de_ixS (i := (((b + (1 + 4 * (b / 4 % 2)) * (u : Int)) % 36).toNat : Nat)) (de_var 3 rfl) (de_is (de_mod (de_intI (T.free _ (by decide)) (de_add (de_var 1 rfl) (de_mul64 (de_var 7 rfl) (de_var 8 rfl) (.inl ⟨by omega, by omega⟩)))) de_int (by decide)) (congrArg PyData.int mu.1.symm)) sz36 (let_at (by rw [signs_len]; exact mu.2))) ?_) (de_sliceS (de_var 5 rfl) (do_some (de_var 6 rfl)) do_none z1) ?_
  · show _ + (letS signsS _).length ≤ _
    rw [letS_len]
    exact Evl.sz_of (by omega)
  · rw [PySem.Str.length_append]
    show _ + (letS signsS _).length + _ ≤ _
    rw [letS_len]
    exact Evl.sz_of (by omega)
end
end Hk
end
section
set_option Elab.async false
set_option linter.all false
set_option maxRecDepth 100000
set_option maxHeartbeats 4000000
set_option exponentiation.threshold 100000
namespace Hk
open PySem PySem.Spec PyProof.Rows L2
open Evl (Ex)
open Hq
/-! ### expressions whose value is known in the whole heap only -/
section
variable (X : Cx) (B : Hp) (ss : List SD)
def DEF (e : Expr) (d : PyData) : Prop := ∀ Z M σ H, Held X.K B Z M σ H ss → ∀ Q : VK, (∀ v H', Ex H H' → Is X.K H' v d → Q v H') → cE X e σ H Q
def DAF (es : List Expr) (ds : List PyData) : Prop := ∀ Z M σ H, Held X.K B Z M σ H ss → ∀ Q : List V → Hp → Prop, (∀ vs H', Ex H H' → IsAll X.K H' vs ds → Q vs H') → cA X es σ H Q
/-- the very value -/
def DV (e : Expr) (u : V) : Prop := ∀ Z M σ H, Held X.K B Z M σ H ss → ∀ Q : VK, Q u H → cE X e σ H Q
end
section
variable {X : Cx} {B : Hp} {ss : List SD} {e a b : Expr} {es : List Expr} {d x y : PyData} {ds xs : List PyData} {pos : Pos}
theorem def_of (h : DE X B ss e d) : DEF X B ss e d := fun Z M σ H hh Q k => h Z M σ H hh Q fun v H' e1 r1 => k v H' e1 (r1.up cut_full)
theorem dv_slot {x : Str} {u : V} (i : Nat) (h : ss[i]? = some (.v u)) (hN : X.N[i]? = some x := by rfl) (hv : Vis X.env.scope x := by first | exact Or.inl rfl | exact Or.inr (Or.inl rfl) | exact Or.inr (Or.inr rfl))
    (hd : (x == ("__debug__" : Str)) = false := by decide) (hcd : (x == ("__classdict__" : Str)) = false := by decide) : DV X B ss (.Name x pos) u := fun Z M σ H hh Q k => ⟨_, pe_var hN hv hd hcd, u, hh.getV h, k⟩
theorem def_v {u : V} (h : DV X B ss e u) (r : Is X.K B u d) : DEF X B ss e d := fun Z M σ H hh Q k => h Z M σ H hh Q (k u H (Ex.refl H) (r.up hh.ex))
theorem daf_nil : DAF X B ss [] [] := fun Z M σ H _ Q k => ⟨_, pa_nil, k [] H (Ex.refl H) .nil⟩
theorem daf_cons (he : DEF X B ss e d) (hr : DAF X B ss es ds) (hs : starEach (e :: es) X.env = (false, eval e X.env) :: starEach es X.env := by rfl) : DAF X B ss (e :: es) (d :: ds) := fun Z M σ H hh Q k =>
  ⟨_, pa_cons (te := cE X e) (t := cA X es) cE_ok cA_ok hs, he Z M σ H hh _ fun v H1 e1 r1 => hr Z M σ H1 (hh.step e1) _ fun vs H2 e2 r2 => k (v :: vs) H2 (e1.trans e2) (.cons (r1.up e2) r2)⟩
theorem def_ixL {i : Int} (ha : DEF X B ss a (.list xs)) (hb : DE X B ss b (.int i)) (h : atI xs i = some d) (hs : PlainIx b := by exact fun _ _ => rfl) : DEF X B ss (.Subscript a b pos) d := fun Z M σ H hh Q k =>
  ⟨_, pe_ix (ta := cE X a) (tb := cE X b) ix_list cE_ok cE_ok hs, ha Z M σ H hh _ fun v H1 e1 r1 => hb Z M σ H1 (hh.step e1) _ fun w H2 e2 r2 => by
    cases r2.intv
    cases r1 with
    | lst h1 t1 =>
      obtain ⟨j, hj, q⟩ := atI_len t1.len h
      obtain ⟨u, hu, ru⟩ := t1.get hj
      exact ⟨_, _, i, u, rfl, rfl, SqL.of (e2 _ _ h1), q u hu, k u H2 (e1.trans e2) (ru.up e2)⟩⟩
theorem def_ixT {i : Int} (ha : DEF X B ss a (.tuple xs)) (hb : DE X B ss b (.int i)) (h : atI xs i = some d) (hs : PlainIx b := by exact fun _ _ => rfl) : DEF X B ss (.Subscript a b pos) d := fun Z M σ H hh Q k =>
  ⟨_, pe_ix (ta := cE X a) (tb := cE X b) ix_tup cE_ok cE_ok hs, ha Z M σ H hh _ fun v H1 e1 r1 => hb Z M σ H1 (hh.step e1) _ fun w H2 e2 r2 => by
    cases r2.intv
    cases r1 with
    | tup h1 t1 =>
      obtain ⟨j, hj, q⟩ := atI_len t1.len h
      obtain ⟨u, hu, ru⟩ := t1.get hj
      exact ⟨_, _, i, u, rfl, rfl, Evl.ex_t e2 h1, q u hu, k u H2 (e1.trans e2) (ru.up e2)⟩⟩
/-- the very item of a list of the base -/
theorem dv_ixL {i : Int} {p : Addr} {vs : List V} {u : V} {j : Nat} (ha : DV X B ss a (.ref p)) (hB : B p = some (.lst vs)) (hb : DE X B ss b (.int i)) (hi : i = (j : Int)) (h : vs[j]? = some u) (hs : PlainIx b := by exact fun _ _ => rfl) :
    ∀ Z M σ H, Held X.K B Z M σ H ss → ∀ Q : VK, (∀ H', Ex H H' → Q u H') → cE X (.Subscript a b pos) σ H Q := fun Z M σ H hh Q k =>
  ⟨_, pe_ix (ta := cE X a) (tb := cE X b) ix_list cE_ok cE_ok hs, ha Z M σ H hh _ (hb Z M σ H hh _ fun w H2 e2 r2 => by
    cases r2.intv
    refine ⟨p, vs, i, u, rfl, rfl, SqL.of (e2 _ _ (hh.ex _ _ hB)), ?_, k H2 e2⟩
    subst hi
    exact atI_nat h)⟩
/-- len of it -/
theorem de_lenF {p q : Pos} (hm : X.mg "len" = none) (ha : DEF X B ss a (.list xs)) (hg : Gl X "len" := by rfl) (he : starEach [a] X.env = (false, eval a X.env) :: starEach [] X.env := by rfl) (hpl : (backTo q (starEach [] X.env)).any (·.1) = false := by rfl) :
    DE X B ss (.Call (.Name "len" p) [a] [] q) (.int xs.length) := fun Z M σ H hh Q k =>
  ⟨_, pe_callB (t := cA X [a]) call_len_seq hg hm PySem.boot_len cA_ok (by decide) (by decide) he hpl, daf_cons ha daf_nil he Z M σ H hh _ fun vs H1 e1 r1 => by
    obtain ⟨v, rfl, r2⟩ := isAll1 r1
    cases r2 with
    | lst h1 t1 => exact ⟨_, _, rfl, .inl (SqL.of h1), by rw [t1.len]; exact k _ H1 e1 (.int _)⟩⟩
/-- a call whose arguments are known in the whole heap only -/
theorem def_call {x : Str} {p : Pos} {ps : List Str} {k : Nat} {R : List PyData → PyData → Prop} (G : FnIs X.prog X.w X.K X.mg X.base x ps k R) (hr : Room k X.A) (ha : DAF X B ss (e :: es) ds) (hR : R ds d) (hlen : ds.length = ps.length := by rfl) (hg : Gl X x := by rfl)
    (hdb : (x == ("__debug__" : Str)) = false := by decide) (he : starEach (e :: es) X.env = (false, eval e X.env) :: starEach es X.env := by rfl) (hpl : (backTo pos (starEach es X.env)).any (·.1) = false := by rfl) : DEF X B ss (.Call (.Name x p) (e :: es) [] pos) d := fun Z M σ H hh Q kk => by
  obtain ⟨f, fd, F, hm, hk, hb⟩ := G.ex
  refine ⟨_, pe_call (t := cA X (e :: es)) F hr hg hm hk hb .nil pass0 cA_ok hdb he hpl, ha Z M σ H hh _ fun vs H1 e1 r1 => ?_⟩
  have ec : ∀ H : Hp, Ex H (cut (fun _ => False) H) := fun H a o q => by rw [cut_of (fun z => z)]; exact q
  exact ⟨fun _ => False, ds, d, by rw [List.append_nil]; exact r1.up (ec _), hlen, fun _ z => z.elim, hR, fun v H' e2 r2 => kk v H' (e1.trans e2) (r2.up cut_full)⟩
end
/-! ### statement by statement -/
section
variable {X : Cx} {B : Hp} {ss : List SD} {st : Stmt} {rest sts : List Stmt}
/-- what follows behind a statement that goes on, at one heap -/
theorem cb_step {Z M : Addr → Prop} {σ : L2.St} {H : Hp} {D : Ends} {mid : List SD → Prop} (hh : Held X.K B Z M σ H ss) (h : DS X B ss st ⟨mid, fun _ => False, fun _ => False, fun _ => False⟩)
    (hr : ∀ ss' M' σ' H', mid ss' → Held X.K B Z M' σ' H' ss' → cB X rest D σ' H') : cB X (st :: rest) D σ H :=
  ⟨_, pss_cons (t := cS X st) (u := cB X rest) cS_ok cB_ok, h Z M σ H hh { D with nx := cB X rest D } ⟨fun σ' H' ss' M' q hh' => hr ss' M' σ' H' q hh', fun _ _ _ z => z.elim, fun _ _ _ _ z => z.elim, fun _ _ _ _ z => z.elim⟩⟩
theorem cb_cs {σ : L2.St} {H : Hp} {D : Ends} (h : cS X st { D with nx := cB X rest D } σ H) : cB X (st :: rest) D σ H := ⟨_, pss_cons (t := cS X st) (u := cB X rest) cS_ok cB_ok, h⟩
theorem cb_nil {σ : L2.St} {H : Hp} {D : Ends} (h : D.nx σ H) : cB X [] D σ H := ⟨_, pss_nil, h⟩
/-- a list of one's own is given back -/
theorem ret_own {x : Str} {xs : List PyData} {px pos : Pos} {Z M : Addr → Prop} {σ : L2.St} {H : Hp} {D : Ends} (s : Nat) (hh : Held X.K B Z M σ H ss) (hm : ss[s]? = some (.m xs)) (k : ∀ p us, B p = none → H p = some (.lst us) → IsAll X.K (cut M H) us xs → D.rt (.ref p) H)
    (hN : X.N[s]? = some x := by rfl) (hv : Vis X.env.scope x := by first | exact Or.inl rfl | exact Or.inr (Or.inl rfl) | exact Or.inr (Or.inr rfl)) (hd : (x == ("__debug__" : Str)) = false := by decide) (hcd : (x == ("__classdict__" : Str)) = false := by decide) :
    cB X [.Return (some (.Name x px)) pos] D σ H := by
  obtain ⟨p, vs, hp, hv1, ha, m, nB⟩ := hh.getM hm
  exact cb_cs ⟨_, ps_ret (pe_var hN hv hd hcd), .ref p, hp, k p vs nB hv1 ha⟩
end
/-! ### a def that gives a new list of flat items -/
def spF (K : PySem.W.Frag) (n : Nat) (R : List PyData → List PyData → Prop) : Sp := fun vs H Q _ => ∃ ds xs, IsAll K H vs ds ∧ ds.length = n ∧ R ds xs ∧ ∀ p us H', Ex H H' → H p = none → H' p = some (.lst us) → IsAll K H' us xs → Q (.ref p) H'
structure FnIsF (P : Program) (w : World) (K : PySem.W.Frag) (mg : Str → Option Value) (base : Heap) (x : Str) (ps : List Str) (k : Nat) (R : List PyData → List PyData → Prop) : Prop where
  ex : ∃ f fd, FnOk P w K mg base CX0 k f fd ps (spF K ps.length R) ∧ mg x = some (.ref f) ∧ PySem.W.keepIn K (.ref f) = true ∧ Binds K fd ps []
/-- x = f(..): the new list -/
theorem ds_callF {X : Cx} {B : Hp} {ss : List SD} {e : Expr} {es : List Expr} {ds xs : List PyData} {x y : Str} {p pos spos p' : Pos} {ps : List Str} {k : Nat} {R : List PyData → List PyData → Prop} {o : Out} (i : Nat) (nd : X.N.Nodup) (G : FnIsF X.prog X.w X.K X.mg X.base x ps k R) (hr : Room k X.A) (ha : DAF X B ss (e :: es) ds) (hR : R ds xs) (hf : flatDs xs = true) (kk : o.nx (ss.set i (.m xs)))
    (hlen : ds.length = ps.length := by rfl) (hg : Gl X x := by rfl) (hdb : (x == ("__debug__" : Str)) = false := by decide) (he : starEach (e :: es) X.env = (false, eval e X.env) :: starEach es X.env := by rfl) (hpl : (backTo pos (starEach es X.env)).any (·.1) = false := by rfl)
    (hi : X.N[i]? = some y := by rfl) (hx : Loc X.env.scope y := by first | exact Or.inl rfl | exact Or.inr rfl) (hs : swapsWith (.Call (.Name x p) (e :: es) [] pos) (some (.Name y p')) spos.line X.env = pure false := by rfl)
    (hfn : X.fn y = true ∨ X.env.scope.names.lookup y = some .local := by first | exact .inl rfl | exact .inr rfl) : DS X B ss (.Assign [.Name y p'] (.Call (.Name x p) (e :: es) [] pos) spos) o := fun Z M σ H hh D m => by
  obtain ⟨f, fd, F, hm, hk, hb⟩ := G.ex
  refine ⟨_, ps_set (te := cE X (.Call (.Name x p) (e :: es) [] pos)) nd hi hx cE_ok hs hfn, _, pe_call (t := cA X (e :: es)) F hr hg hm hk hb .nil pass0 cA_ok hdb he hpl, ha Z M σ H hh _ fun vs H1 e1 r1 => ?_⟩
  refine ⟨ds, xs, by rw [List.append_nil]; exact r1, hlen, hR, fun q us H' e2 nq hq ru => ?_⟩
  have h1 := hh.step e1
  have h2 := h1.step e2
  obtain ⟨nM, nB⟩ := h1.new nq
  refine m.nx _ _ _ _ kk (h1.setNew i nq e2 hq ?_)
  have hM : ∀ a, (M a ∨ a = q) → ∃ zs, H' a = some (.lst zs) := fun a z => z.elim (h2.mH a) fun z => ⟨us, by rw [z]; exact hq⟩
  exact IsAll.flat hM xs us hf ru
end Hk
end
section
set_option Elab.async false
set_option linter.all false
set_option maxRecDepth 100000
set_option maxHeartbeats 4000000
set_option exponentiation.threshold 100000
namespace Hk
open PySem PySem.Spec PyProof.Rows L2
open Evl (Ex)
open Hq
def moreL : List Rat := [0, 1, 1 / 2, 0, 4]
def moreQ (d : Int) : Rat := moreL.getD (d % 5).toNat 0
def valsQ (m : Market) (k a : Nat) : List Rat := (kids m k).map fun c => getQ (nodeAt m c).pr a + getQ (nodeAt m c).po a
def baseQ (m : Market) (k a : Nat) (ws : List Rat) : Rat := dotQ ws (valsQ m k a) / (nodeAt m k).g
def priceQ (m : Market) (k a : Nat) (r : Rule) (ws : List Rat) (d : Int) : Rat := match r with
  | .long => baseQ m k a ws + moreQ d
  | .short => baseQ m k a ws - moreQ d
  | .none_ => ((d % 9 : Int) : Rat)
  | .any => baseQ m k a ws
def pricesQ (m : Market) (k : Nat) (ws : List Rat) (zs : List Int) : List Rat := (List.range (nodeAt m k).rules.length).map fun a => priceQ m k a ((nodeAt m k).rules.getD a .any) ws (zs.getD a 0)
structure PriceOk (m : Market) (k : Nat) (ws : List Rat) : Prop where
  g0 : (nodeAt m k).g ≠ 0
  wl : ws.length = (kids m k).length
  dot : ∀ a, a < m.many → DotOk ws (valsQ m k a) ∧ Sm 4000 (baseQ m k a ws)
def R_Lprices (ds : List PyData) (xs : List PyData) : Prop := ∃ names m k ws zs, ds = [marketD names m, .int (k : Nat), .list ((nodeAt m k).rules.map ruleD), numL ws, zsD zs] ∧ WfM names m ∧ k < m.nodes.length ∧ PriceOk m k ws ∧ m.many ≤ zs.length ∧ xs = (pricesQ m k ws zs).map num
theorem num_half : num (1 / 2) = .tuple [.int 1, .int 2] := by
  unfold num
  have h1 : (1 / 2 : Rat).num = 1 := by decide +kernel
  have h2 : (1 / 2 : Rat).den = 2 := by decide +kernel
  rw [h1, h2]
  rfl
theorem num_int (i : Int) : num (i : Rat) = .tuple [.int i, .int 1] := by
  unfold num
  rw [Rat.num_intCast, Rat.den_intCast]
  rfl
theorem more_sm (d : Int) : Sm 4000 (moreQ d) := by
  have h := (mod_nat (d := d) (n := 5) (by decide)).2
  have hm : moreQ d ∈ moreL := getD_mem h
  have : ∀ q ∈ moreL, q.num.natAbs < 2 ^ 4 ∧ q.den < 2 ^ 4 := by decide +kernel
  exact Sm.mono (j := 4) (this _ hm) (by decide)
theorem flat_nums : ∀ xs : List Rat, flatDs (xs.map num) = true
  | [] => rfl
  | x :: xs => by
    show (flatD (num x) && flatDs (xs.map num)) = true
    rw [flat_nums xs]
    rfl
section
variable {P : Program} {w : World} {K : PySem.W.Frag} {mg : Str → Option Value} {base : Heap}
theorem sc_L_node_prices : FnScope ["_law_market_here", "_law_node", "_law_rules", "_law_weights_here", "_law_draws_here", "_law_prices", "_law_growth", "_law_k", "_law_values_here", "_law_price", "_law_more", "_law_c"] ["_law_market_here", "_law_node", "_law_rules", "_law_weights_here", "_law_draws_here"] (defScope st_L_node_prices) := ⟨rfl, rfl, rfl, by decide +kernel, rfl, by decide +kernel, by decide +kernel⟩
theorem fn_L_node_prices (T : Top K mg) : FnIsF P w K mg base "_law_node_prices" ["_law_market_here", "_law_node", "_law_rules", "_law_weights_here", "_law_draws_here"] 7 R_Lprices := by
  obtain ⟨fd, F⟩ := T.fn 65 dd_L_node_prices rfl
  refine ⟨_, fd, F.ok sc_L_node_prices (fun vs H Q E h => ?_) (fun cdv A outer s H vs Q E hr h => ?_), T.glo 65 dd_L_node_prices rfl, F.kp, F.bindsN (fun _ _ _ _ _ _ us hl => match us, hl with | [_, _, _, _, _], _ => rfl)⟩
  · obtain ⟨ds, xs, r, hl, _⟩ := h
    rw [r.len, hl]
  obtain ⟨ds, xs, r, hl, hR, q⟩ := h
  have ec : Ex H (cut (fun _ => False) H) := fun a o q => by rw [cut_of (fun z => z)]; exact q
  have hh := held_start (N := ["_law_market_here", "_law_node", "_law_rules", "_law_weights_here", "_law_draws_here", "_law_prices", "_law_growth", "_law_k", "_law_values_here", "_law_price", "_law_more", "_law_c"]) (r.up ec) (fun _ z => z.elim)
  rw [hl] at hh
  suffices hb : cB (cxOf CX0 P w K mg base ["_law_market_here", "_law_node", "_law_rules", "_law_weights_here", "_law_draws_here", "_law_prices", "_law_growth", "_law_k", "_law_values_here", "_law_price", "_law_more", "_law_c"] dd_L_node_prices.qual dd_L_node_prices.scope (He.fAd K dd_L_node_prices.at_) cdv A outer s H E).nox dd_L_node_prices.body { nx := fun _ H' => Q .non H', rt := Q } (L2.start ["_law_market_here", "_law_node", "_law_rules", "_law_weights_here", "_law_draws_here", "_law_prices", "_law_growth", "_law_k", "_law_values_here", "_law_price", "_law_more", "_law_c"] vs) H by
    obtain ⟨t, ht, hq⟩ := hb
    exact ⟨t, ht.nox, hq⟩
  obtain ⟨names, m, k, ws, zs, rfl, W, hk, ok, hz, rfl⟩ := hR
  have nd := sc_L_node_prices.nd
  have w1 := W.at_ hk
  have hml := W.len
  have hkl := kids_len m k
  have hmany := W.many
  let rs := (nodeAt m k).rules
  have rl : rs.length = m.many := w1.rules
  let st : List Rat → SD → SD → SD → SD → List SD := fun P c7 c8 c9 c10 => [.d (marketD names m), .d (.int (k : Nat)), .d (.list ((nodeAt m k).rules.map ruleD)), .d (numL ws), .d (zsD zs), .m (P.map num), .d (num (nodeAt m k).g), c7, c8, c9, c10, .no]
  refine cb_step (mid := fun z => z = (startS [marketD names m, .int (k : Nat), .list ((nodeAt m k).rules.map ruleD), numL ws, zsD zs] 7).set 5 (.m [])) hh (ds_setL 5 nd (dl_lst da_nil) rfl) ?_
  rintro _ M1 σ1 H1 rfl h1
  refine cb_step (mid := fun z => z = st [] .no .no .no .no) h1 (ds_set 6 nd (de_growth (de_node (de_nodes (de_var 0 rfl)) (de_var 1 rfl) hk)) rfl) ?_
  rintro _ M2 σ2 H2 rfl h2
  let pr : Nat → Rat := fun a => priceQ m k a (rs.getD a .any) ws (zs.getD a 0)
  refine cb_step (mid := fun z => ∃ c7 c8 c9 c10, z = st (pricesQ m k ws zs) c7 c8 c9 c10) h2 (ds_for PassesOwn.never rfl (di_rng (m := rs.length) (T.free _ (by decide)) (de_lenL (T.free _ (by decide)) (de_var 2 rfl)) (by rw [List.length_map]) (by omega)) (fun i z => ∃ c7 c8 c9 c10, z = st ((List.range i).map pr) c7 c8 c9 c10) ⟨.no, .no, .no, .no, rfl⟩ ?_ ?_) ?_
  · rintro a d ss' hd ⟨c7, c8, c9, c10, rfl⟩
    obtain ⟨rfl, ha⟩ := rgD_get hd
    rw [Int.zero_add]
    have ha' : a < m.many := by rw [← rl]; exact ha
    obtain ⟨dok, bsm⟩ := ok.dot a ha'
    refine ⟨_, _, dg_name 7 nd, fun B1 e1 => ?_⟩
    have hr0 : rs[a]? = some (rs.getD a .any) := getD_at ha
    have hz0 : atI (zs.map PyData.int) (a : Int) = some (.int (zs.getD a 0)) := atI_map PyData.int (getD_at (z := 0) (by omega))
    let r := rs.getD a .any
    let z0 := zs.getD a 0
    refine dss_seq (ds_setC 8 rfl nd (dc_map [("_law_c", 11)] (kids m k) (fun i => .int (i : Nat)) (fun c => num (getQ (nodeAt m c).pr a + getQ (nodeAt m c).po a))
      (fun i => [.d (marketD names m), .d (.int (k : Nat)), .d (.list ((nodeAt m k).rules.map ruleD)), .d (numL ws), .d (zsD zs), .m (((List.range a).map pr).map num), .d (num (nodeAt m k).g), .d (.int (a : Nat)), c8, c9, c10, .d (.int (i : Nat))])
      (di_list (de_call (fn_L_children T) (hr.mono (by decide)) (da_cons (de_var 0 rfl) (da_cons (de_var 1 rfl) da_nil)) ⟨_, _, _, rfl, W, rfl⟩)) (by omega) rfl (fun u hu s H C cl fp => ⟨_, (by decide), dg_name 11 nd, fun B1 e1 => ?_⟩)) rfl rfl) (dss_frz (i := 8) rfl ?_)
    · have hul := kids_lt hu
      have w2 := W.at_ hul
      obtain ⟨s1, s2, s3, s4⟩ := gains_sm W hk hul ha'
      exact de_call (fn_L_plus T) (hr.mono (by decide)) (da_cons (de_at (de_prices (de_node (de_nodes (de_var 0 rfl)) (de_var 11 rfl) hul)) (de_var 7 rfl) (by rw [w2.pr]; exact ha')) (da_cons (de_at (de_payouts (de_node (de_nodes (de_var 0 rfl)) (de_var 11 rfl) hul)) (de_var 7 rfl) (by rw [w2.po]; exact ha')) da_nil)) ⟨_, _, rfl, s1.mono (by decide), s2.mono (by decide), trivial, rfl⟩
    have ev : (kids m k).map (fun c => num (getQ (nodeAt m c).pr a + getQ (nodeAt m c).po a)) = (valsQ m k a).map num := by unfold valsQ; rw [List.map_map]; rfl
    rw [ev]
    refine dss_seq (ds_set 9 nd (d := num (baseQ m k a ws)) (de_call (fn_L_over T) (hr.mono (by decide)) (da_cons (de_call (fn_L_dot T) (hr.mono (by decide)) (da_cons (de_var 3 rfl) (da_cons (d := numL (valsQ m k a)) (de_var 8 rfl) da_nil)) ⟨_, _, rfl, dok, by rw [ok.wl]; unfold valsQ; rw [List.length_map], rfl⟩) (da_cons (de_var 6 rfl) da_nil)) ⟨_, _, rfl, dok.sm, w1.g.mono (by decide), ok.g0, rfl⟩) rfl) ?_
    have hm5 := mod_nat (d := z0) (n := 5) (by decide)
    refine dss_seq (ds_set 10 nd (d := num (moreQ z0)) (de_ixL (xs := moreL.map num) (i := (((z0 % 5).toNat : Nat) : Int)) (de_dl (dl_lst (da_cons (d := num 0) (de_tup (da_cons de_int (da_cons de_int da_nil))) (da_cons (d := num 1) (de_tup (da_cons de_int (da_cons de_int da_nil))) (da_cons (d := num (1 / 2)) (de_is (de_tup (da_cons de_int (da_cons de_int da_nil))) num_half.symm) (da_cons (d := num 0) (de_tup (da_cons de_int (da_cons de_int da_nil))) (da_cons (d := num 4) (de_tup (da_cons de_int (da_cons de_int da_nil))) da_nil))))))) (de_is (de_mod (de_intI (T.free _ (by decide)) (de_ixL (de_var 4 rfl) (de_var 7 rfl) hz0)) de_int (by decide)) (congrArg PyData.int hm5.1.symm)) (atI_map num (getD_at hm5.2))) rfl) ?_
    have msm := more_sm z0
    let st3 : Rat → List SD := fun q => [.d (marketD names m), .d (.int (k : Nat)), .d (.list ((nodeAt m k).rules.map ruleD)), .d (numL ws), .d (zsD zs), .m (((List.range a).map pr).map num), .d (num (nodeAt m k).g), .d (.int (a : Nat)), .d (numL (valsQ m k a)), .d (num q), .d (num (moreQ z0)), .no]
    have hrule : ∀ {B : Hp} {ss : List SD} {e1 e2 : Expr} {pos : Pos}, True := trivial
    refine dss_cons (mid := fun z => z = st3 (pr a)) (ds_if (t := decide (r = .long)) (dt_is (dt_cmp cmp_eqS (de_ixL (de_var 2 rfl) (de_var 7 rfl) (atI_map ruleD hr0)) de_str) (rule_long r)) (fun h => ?_) (fun h => dss_one (ds_if (t := decide (r = .short)) (dt_is (dt_cmp cmp_eqS (de_ixL (de_var 2 rfl) (de_var 7 rfl) (atI_map ruleD hr0)) de_str) (rule_short r)) (fun h2 => ?_) (fun h2 => dss_one (ds_if (t := decide (r = .none_)) (dt_is (dt_cmp cmp_eqS (de_ixL (de_var 2 rfl) (de_var 7 rfl) (atI_map ruleD hr0)) de_str) (rule_none r)) (fun h3 => ?_) (fun h3 => dss_nil ?_)))))) ?_
    · have h' : rs.getD a .any = .long := of_decide_eq_true h
      refine dss_one (ds_set 9 nd (d := num (pr a)) (de_call (fn_L_plus T) (hr.mono (by decide)) (da_cons (de_var 9 rfl) (da_cons (de_var 10 rfl) da_nil)) ⟨_, _, rfl, bsm.mono (by decide), msm.mono (by decide), trivial, ?_⟩) rfl)
      simp only [pr, priceQ, h']
      rfl
    · have h' : rs.getD a .any = .short := of_decide_eq_true h2
      refine dss_one (ds_set 9 nd (d := num (pr a)) (de_call (fn_L_minus T) (hr.mono (by decide)) (da_cons (de_var 9 rfl) (da_cons (de_var 10 rfl) da_nil)) ⟨_, _, rfl, bsm.mono (by decide), msm.mono (by decide), trivial, ?_⟩) rfl)
      simp only [pr, priceQ, h']
      rfl
    · have h' : rs.getD a .any = .none_ := of_decide_eq_true h3
      refine dss_one (ds_set 9 nd (d := num (pr a)) (de_is (de_tup (da_cons (de_mod (de_intI (T.free _ (by decide)) (de_ixL (de_var 4 rfl) (de_var 7 rfl) hz0)) de_int (by decide)) (da_cons de_int da_nil))) ?_) rfl)
      simp only [pr, priceQ, h']
      exact (num_int _).symm
    · have h' : rs.getD a .any = .any := by
        have a1 : r ≠ .long := of_decide_eq_false h
        have a2 : r ≠ .short := of_decide_eq_false h2
        have a3 : r ≠ .none_ := of_decide_eq_false h3
        show r = .any
        cases e : r with
        | any => rfl
        | long => exact absurd e a1
        | short => exact absurd e a2
        | none_ => exact absurd e a3
      show _ = st3 (pr a)
      simp only [pr, priceQ, h']
      rfl
    rintro ss' rfl
    refine dss_one (ds_app 5 rfl (d := num (pr a)) (de_var 9 rfl) (by simp; omega) ⟨.d (.int (a : Nat)), .d (numL (valsQ m k a)), .d (num (pr a)), .d (num (moreQ z0)), ?_⟩)
    rw [List.range_succ, List.map_append]
    simp only [st, List.map_append]
    rfl
  · rintro ss' ⟨c7, c8, c9, c10, rfl⟩
    rw [rgD_len]
    exact ⟨c7, c8, c9, c10, rfl⟩
  rintro _ M3 σ3 H3 ⟨c7, c8, c9, c10, rfl⟩ h3
  exact ret_own 5 h3 rfl fun p us nB hp hu => q p us H3 h3.ex nB hp (hu.up cut_full)
end
end Hk
end
section
set_option Elab.async false
set_option linter.all false
set_option maxRecDepth 100000
set_option maxHeartbeats 4000000
set_option exponentiation.threshold 100000
namespace Hk
open PySem PySem.Spec PyProof.Rows L2
open Evl (Ex)
open Hq
/-! ### the market as it is made -/
def drOf (ns : List Int) : List Int := (drawsOf ns 400).drop 180
def dAt (dr : List Int) (i : Nat) : Int := dr.getD i 0
def manyL : List Int := [1, 2, 1, 2, 2, 1, 3, 4]
def manyOf (dr : List Int) : Nat := (manyL.getD (dAt dr 2 % 8).toNat 1).toNat
def parsOf (dr : List Int) : List Int := parentsQ (dAt dr 3) (manyOf dr)
def npOf (dr : List Int) : Nat := (parsOf dr).length
def growL : List Rat := [1, 1, 2, 1 / 2, 11 / 10]
def growsOf (np : Nat) : List Rat := if 7 < np then growL.take 4 else growL
def menuR : List Rule := [.any, .any, .long, .short, .any, .none_]
def payL : List Rat := [0, 0, 1, -1 / 2]
def atOf (k : Nat) : Nat := 4 + 17 * k % 150
def sliceZ (xs : List Int) (a n : Nat) : List Int := (xs.drop a).take n
def partOf (dr : List Int) (k : Nat) : List Int := sliceZ dr (atOf k) 17
def growAt (dr : List Int) (k : Nat) : Rat := (growsOf (npOf dr)).getD (dAt (partOf dr k) 0 % ((growsOf (npOf dr)).length : Int)).toNat 1
def rule0 (dr : List Int) (k n : Nat) : Rule := menuR.getD (dAt (partOf dr k) (1 + n) % 6).toNat .any
def price0 (dr : List Int) (k n : Nat) : Rat := Rat.divInt (dAt (partOf dr k) (5 + n) % 18 - 6) (1 + dAt (partOf dr k) (5 + n) / 18 % 2)
def pay0 (dr : List Int) (k n : Nat) : Rat := payL.getD (dAt (partOf dr k) (9 + n) % 4).toNat 0
def node0 (dr : List Int) (k : Nat) : Node := ⟨(parsOf dr).getD k 0, growAt dr k, (List.range (manyOf dr)).map (rule0 dr k), (List.range (manyOf dr)).map (price0 dr k), (List.range (manyOf dr)).map (pay0 dr k)⟩
def mkt0 (dr : List Int) : Market := ⟨manyOf dr, (List.range (npOf dr)).map (node0 dr)⟩
def latOf (k : Nat) : Nat := 172 + 6 * k % 36
def wsOf (dr : List Int) (m : Market) (k : Nat) : List Rat := if 7 < npOf dr then plainQ (dAt dr (latOf k)) (kids m k).length else weightsQ (sliceZ dr (latOf k) 6) (kids m k).length
def moreOf (dr : List Int) (k : Nat) : List Int := sliceZ dr (atOf k + 13) 4
def newNode (dr : List Int) (m : Market) (k : Nat) : Node := ⟨(nodeAt m k).par, (nodeAt m k).g, (nodeAt m k).rules, pricesQ m k (wsOf dr m k) (moreOf dr k), (nodeAt m k).po⟩
def stepM (dr : List Int) (s : Market × List (List Rat)) (k : Nat) : Market × List (List Rat) :=
  if 0 < (kids s.1 k).length then (⟨s.1.many, s.1.nodes.set k (newNode dr s.1 k)⟩, s.2.set k (wsOf dr s.1 k)) else s
def stateM (dr : List Int) : Nat → Market × List (List Rat)
  | 0 => (mkt0 dr, List.replicate (npOf dr) [])
  | i + 1 => stepM dr (stateM dr i) (npOf dr - 1 - i)
def lettersS : Str := "abcdefghijklmnopqrstuvwxyz"
def nameOf (dr : List Int) (n : Nat) : Str := letS lettersS ((dAt dr 1 + n) % 26).toNat ++ cutS (poolOne (dAt dr 0) (dAt dr 1) n) none (some 11)
def namesD (dr : List Int) : List PyData := (List.range (manyOf dr)).map fun n => .str (nameOf dr n)
def StepOk (dr : List Int) (s : Market × List (List Rat)) (k : Nat) : Prop := WfM (namesD dr) s.1 ∧ (0 < (kids s.1 k).length → (kids s.1 k).length ≤ 6 ∧ (7 < npOf dr → (kids s.1 k).length = 1 ∨ (kids s.1 k).length = 2 ∨ (kids s.1 k).length = 3) ∧ PriceOk s.1 k (wsOf dr s.1 k))
def MarketOk (dr : List Int) : Prop := ∀ i, i < npOf dr → StepOk dr (stateM dr i) (npOf dr - 1 - i)
def R_Lmarket (ds : List PyData) (x : PyData) : Prop := ∃ ns, ds = [scrD ns] ∧ ns.length < 1000 ∧ MarketOk (drOf ns) ∧ x = .tuple [marketD (namesD (drOf ns)) (stateM (drOf ns) (npOf (drOf ns))).1, numLL (stateM (drOf ns) (npOf (drOf ns))).2]
theorem stateM_len (dr : List Int) : ∀ i, (stateM dr i).1.nodes.length = npOf dr ∧ (stateM dr i).2.length = npOf dr ∧ (stateM dr i).1.many = manyOf dr
  | 0 => by simp [stateM, mkt0]
  | i + 1 => by
    obtain ⟨h1, h2, h3⟩ := stateM_len dr i
    show (stepM dr (stateM dr i) (npOf dr - 1 - i)).1.nodes.length = npOf dr ∧ (stepM dr (stateM dr i) (npOf dr - 1 - i)).2.length = npOf dr ∧ (stepM dr (stateM dr i) (npOf dr - 1 - i)).1.many = manyOf dr
    unfold stepM
    split
    · simp [h1, h2, h3]
    · exact ⟨h1, h2, h3⟩
theorem dr_len (ns : List Int) : (drOf ns).length = 220 := by unfold drOf; rw [List.length_drop, drawsOf_len]
theorem dr_rng (ns : List Int) : ∀ d ∈ drOf ns, 0 ≤ d ∧ d < 1000 := fun d h => drawsOf_rng ns 400 d (List.mem_of_mem_drop h)
theorem slice_len {xs : List Int} {a n : Nat} (h : a + n ≤ xs.length) : (sliceZ xs a n).length = n := by unfold sliceZ; rw [List.length_take, List.length_drop]; omega
theorem slice_rng {xs : List Int} {a n : Nat} (h : ∀ d ∈ xs, 0 ≤ d ∧ d < 1000) : ∀ d ∈ sliceZ xs a n, 0 ≤ d ∧ d < 1000 := fun d hd => h d (List.mem_of_mem_drop (List.mem_of_mem_take hd))
theorem dAt_rng {xs : List Int} (h : ∀ d ∈ xs, 0 ≤ d ∧ d < 1000) (i : Nat) : 0 ≤ dAt xs i ∧ dAt xs i < 1000 := by
  unfold dAt
  by_cases hi : i < xs.length
  · exact h _ (getD_mem hi)
  · rw [List.getD_eq_getElem?_getD, List.getElem?_eq_none (by omega)]
    exact ⟨Int.le_refl 0, (by decide : (0 : Int) < 1000)⟩
theorem cutD_slice (xs : List Int) {a b : Nat} (h1 : a ≤ b) (h2 : b ≤ xs.length) : cutD (xs.map PyData.int) (some (a : Int)) (some (b : Int)) = (sliceZ xs a (b - a)).map .int := by
  unfold cutD sliceZ
  rw [HT.sIx_nat, HT.sIx_nat, List.length_map, Nat.min_eq_left h2, Nat.min_eq_left (by omega), List.map_take, List.map_drop]
theorem np_le (dr : List Int) : npOf dr ≤ 18 ∧ 0 < npOf dr := by
  have key : ∀ a, ∀ l ∈ shapesOf a, l.length ≤ 18 ∧ 0 < l.length := by
    intro a
    unfold shapesOf
    split
    · decide
    · split
      · decide
      · decide
  have hl : 0 < (shapesOf (manyOf dr)).length := by unfold shapesOf; split; decide; split <;> decide
  exact key _ _ (getD_mem (mod_nat (d := dAt dr 3) hl).2)
theorem many_mem (dr : List Int) : manyL.getD (dAt dr 2 % 8).toNat 1 ∈ manyL := getD_mem (mod_nat (d := dAt dr 2) (n := 8) (by decide)).2
theorem many_rng (dr : List Int) : 1 ≤ manyOf dr ∧ manyOf dr ≤ 4 ∧ ((manyOf dr : Nat) : Int) = manyL.getD (dAt dr 2 % 8).toNat 1 := by
  have : ∀ z ∈ manyL, 1 ≤ z ∧ z ≤ 4 := by decide
  have h := this _ (many_mem dr)
  unfold manyOf
  omega
/-! ### hidden lists at known places -/
section
variable {K : PySem.W.Frag} {B : Hp} {Z M : Addr → Prop} {σ : L2.St} {H : Hp} {ss : List SD}
theorem Held.setV (h : Held K B Z M σ H ss) (i : Nat) (u : V) : Held K B Z M (σ.set i (some u)) H (ss.set i (.v u)) := by
  have q := h.forget i (some u)
  refine ⟨q.ex, q.zM, q.mB, q.mH, q.zB, by simpa using q.len, fun j x sd a b => ?_, fun j p ys a b => ?_, fun j k p ys zs a b c d => ?_⟩
  · by_cases e : i = j
    · subst e
      have hi : i < ss.length := by have := (List.getElem?_eq_some_iff.mp b).1; simpa using this
      rw [List.getElem?_set_self (by rw [h.len]; exact hi)] at a
      rw [List.getElem?_set_self hi] at b
      cases a; cases b
      rfl
    · rw [List.getElem?_set_ne e] at a b
      exact h.slot j x sd a b
  · have ne : i ≠ j := fun e => by
      subst e
      have hi : i < ss.length := by have := (List.getElem?_eq_some_iff.mp a).1; simpa using this
      rw [List.getElem?_set_self hi] at a; cases a
    rw [List.getElem?_set_ne ne] at a b
    exact h.mm j p ys a b
  · have f : ∀ (j : Nat) (ws : List PyData), (ss.set i (.v u))[j]? = some (.m ws) → i ≠ j := fun j ws a e => by
      subst e
      have hi : i < ss.length := by have := (List.getElem?_eq_some_iff.mp a).1; simpa using this
      rw [List.getElem?_set_self hi] at a; cases a
    have n1 := f j _ a
    have n2 := f k _ b
    rw [List.getElem?_set_ne n1] at a c
    rw [List.getElem?_set_ne n2] at b d
    exact h.inj j k p ys zs a b c d
/-- base and hidden lists of now -/
theorem ex_now (zM : ∀ a, Z a → M a) : Ex (cut M H) (cut Z (cut (fun a => M a ∧ ¬ Z a) H)) := fun a o q => by
  have n : ¬ M a := fun m => by rw [cut_on m] at q; cases q
  rw [cut_of n] at q
  rw [cut_of fun z => n (zM a z), cut_of fun z => n z.1]
  exact q
theorem Held.vis (h : Held K B Z M σ H ss) : Ex (cut Z B) (cut M H) := fun a o q => by
  have n : ¬ Z a := fun z => by rw [cut_on z] at q; cases q
  rw [cut_of n] at q
  have nm : ¬ M a := fun m => by
    rcases h.mB a m with z | z
    · exact n z
    · rw [z] at q; cases q
  rw [cut_of nm]
  exact h.ex a o q
/-- a hidden list of the base changes -/
theorem Held.mutZ (h : Held K B Z M σ H ss) {p : Addr} {xs : List V} (zp : Z p) : Held K (cut (fun a => M a ∧ ¬ Z a) (upd H p (.lst xs))) Z M σ (upd H p (.lst xs)) ss := by
  have mp := h.zM p zp
  have mH' : ∀ a, M a → ∃ ys, upd H p (.lst xs) a = some (.lst ys) := fun a m => by
    by_cases e : a = p
    · exact ⟨xs, by rw [e]; exact upd_same⟩
    · rw [upd_ne e]; exact h.mH a m
  refine ⟨cut_full, h.zM, fun a m => ?_, mH', fun a z => ?_, h.len, fun i x sd a b => ?_, fun i q ys a b => ?_, h.inj⟩
  · by_cases z : Z a
    · exact .inl z
    · exact .inr (cut_on ⟨m, z⟩)
  · obtain ⟨ys, e⟩ := mH' a (h.zM a z)
    exact ⟨ys, by rw [cut_of fun q => q.2 z]; exact e⟩
  · rw [cut_upd mp]
    have q := h.slot i x sd a b
    cases sd with
    | no => trivial
    | d y => exact q
    | m ys =>
      obtain ⟨r, vs, rfl, e1, e2⟩ := q
      have nr : r ≠ p := fun z => by
        obtain ⟨_, nB⟩ := h.mm i r ys b a
        obtain ⟨ws, e⟩ := h.zB p zp
        rw [z, e] at nB; cases nB
      exact ⟨r, vs, rfl, by rw [upd_ne nr]; exact e1, e2⟩
    | v u => exact q
  · obtain ⟨m, nB⟩ := h.mm i q ys a b
    refine ⟨m, cut_on ⟨m, fun z => ?_⟩⟩
    obtain ⟨ws, e⟩ := h.zB q z
    rw [e] at nB; cases nB
/-- a list of one's own is put where it is known -/
theorem Held.expose (h : Held K B Z M σ H ss) {i : Nat} {ys : List PyData} (e : ss[i]? = some (.m ys)) : ∃ p vs, σ[i]? = some (some (.ref p)) ∧ H p = some (.lst vs) ∧ IsAll K (cut M H) vs ys ∧ ¬ Z p ∧ B p = none ∧ M p ∧
    Held K (cut (fun a => M a ∧ ¬ (Z a ∨ a = p)) H) (fun a => Z a ∨ a = p) M σ H (ss.set i (.v (.ref p))) := by
  obtain ⟨p, vs, hp, hv, ha, m, nB⟩ := h.getM e
  have nZ : ¬ Z p := fun z => by
    obtain ⟨ws, q⟩ := h.zB p z
    rw [nB] at q; cases q
  have hi : i < ss.length := (List.getElem?_eq_some_iff.mp e).1
  have hs : σ.set i (some (.ref p)) = σ := by
    refine List.ext_getElem? fun j => ?_
    by_cases q : i = j
    · subst q
      rw [List.getElem?_set_self (by rw [h.len]; exact hi), hp]
    · rw [List.getElem?_set_ne q]
  have h' := h.setV i (.ref p)
  rw [hs] at h'
  refine ⟨p, vs, hp, hv, ha, nZ, nB, m, cut_full, fun a z => z.elim (h.zM a) fun z => by rw [z]; exact m, fun a q => ?_, h.mH, fun a z => ?_, h'.len, h'.slot, fun j q us a b => ?_, h'.inj⟩
  · by_cases z : Z a ∨ a = p
    · exact .inl z
    · exact .inr (cut_on ⟨q, z⟩)
  · have ma : M a := z.elim (h.zM a) fun z => by rw [z]; exact m
    obtain ⟨xs, q⟩ := h.mH a ma
    exact ⟨xs, by rw [cut_of fun q => q.2 z]; exact q⟩
  · obtain ⟨mq, nq⟩ := h'.mm j q us a b
    have ne : i ≠ j := fun e => by
      subst e
      rw [List.getElem?_set_self hi] at a; cases a
    refine ⟨mq, cut_on ⟨mq, fun z => ?_⟩⟩
    rcases z with z | z
    · obtain ⟨ws, e⟩ := h.zB q z
      rw [nq] at e; cases e
    · subst z
      rw [List.getElem?_set_ne ne] at a
      exact ne (h.inj i j q ys us e a hp b)
end
/-! ### expressions at one base with its hidden lists -/
section
variable (X : Cx) (B : Hp) (Z : Addr → Prop) (ss : List SD)
def DEz (e : Expr) (d : PyData) : Prop := ∀ M σ H, Held X.K B Z M σ H ss → ∀ Q : VK, (∀ v H', Ex H H' → Is X.K (cut M H') v d → Q v H') → cE X e σ H Q
def DAz (es : List Expr) (ds : List PyData) : Prop := ∀ M σ H, Held X.K B Z M σ H ss → ∀ Q : List V → Hp → Prop, (∀ vs H', Ex H H' → IsAll X.K (cut M H') vs ds → Q vs H') → cA X es σ H Q
end
section
variable {X : Cx} {B : Hp} {Z : Addr → Prop} {ss : List SD} {e a b : Expr} {es : List Expr} {d : PyData} {ds xs : List PyData} {pos : Pos}
theorem dez_of (h : DE X B ss e d) : DEz X B Z ss e d := fun M σ H hh Q k => h Z M σ H hh Q k
theorem daz_nil : DAz X B Z ss [] [] := fun M σ H _ Q k => ⟨_, pa_nil, k [] H (Ex.refl H) .nil⟩
theorem daz_cons (he : DEz X B Z ss e d) (hr : DAz X B Z ss es ds) (hs : starEach (e :: es) X.env = (false, eval e X.env) :: starEach es X.env := by rfl) : DAz X B Z ss (e :: es) (d :: ds) := fun M σ H hh Q k =>
  ⟨_, pa_cons (te := cE X e) (t := cA X es) cE_ok cA_ok hs, he M σ H hh _ fun v H1 e1 r1 => hr M σ H1 (hh.step e1) _ fun vs H2 e2 r2 => k (v :: vs) H2 (e1.trans e2) (.cons (r1.up (cut_ex e2)) r2)⟩
theorem dez_tup {x1 : Nat} (h : DAz X B Z ss es ds) (hl : ds.length ≤ sizeLine := by exact Evl.sz_of (Nat.le_of_ble_eq_true rfl)) : DEz X B Z ss (.Tuple es x1 pos) (.tuple ds) := fun M σ H hh Q k =>
  ⟨_, pe_tup (t := cA X es) cA_ok, h M σ H hh _ fun vs H1 e1 r1 => ⟨by rw [r1.len]; exact hl, fun p hp => k _ _ (e1.trans (Ex.new hp)) (tup_new hp (fun a m => by
    obtain ⟨ys, q⟩ := hh.mH a m
    exact ⟨ys, e1 _ _ q⟩) r1)⟩⟩
theorem dez_ixT {i : Int} (ha : DEz X B Z ss a (.tuple xs)) (hb : DE X B ss b (.int i)) (h : atI xs i = some d) (hs : PlainIx b := by exact fun _ _ => rfl) : DEz X B Z ss (.Subscript a b pos) d := fun M σ H hh Q k =>
  ⟨_, pe_ix (ta := cE X a) (tb := cE X b) ix_tup cE_ok cE_ok hs, ha M σ H hh _ fun v H1 e1 r1 => hb Z M σ H1 (hh.step e1) _ fun w H2 e2 r2 => by
    cases r2.intv
    cases r1 with
    | tup h1 t1 =>
      obtain ⟨j, hj, q⟩ := atI_len t1.len h
      obtain ⟨u, hu, ru⟩ := t1.get hj
      exact ⟨_, _, i, u, rfl, rfl, Evl.ex_t (cut_full.trans e2) h1, q u hu, k u H2 (e1.trans e2) (ru.up (cut_ex e2))⟩⟩
/-- an item of a hidden list of the base -/
theorem dez_ixV {i : Int} {p : Addr} {vs : List V} {j : Nat} (ha : DV X B ss a (.ref p)) (hB : B p = some (.lst vs)) (hA : IsAll X.K (cut Z B) vs ds) (hb : DE X B ss b (.int i)) (hi : i = (j : Int)) (h : ds[j]? = some d) (hs : PlainIx b := by exact fun _ _ => rfl) :
    DEz X B Z ss (.Subscript a b pos) d := fun M σ H hh Q k => by
  obtain ⟨u, hu, ru⟩ := hA.get h
  exact dv_ixL ha hB hb hi hu hs Z M σ H hh Q fun H' e1 => k u H' e1 ((ru.up hh.vis).up (cut_ex e1))
end
/-! ### by hand: a test, a loop over a range -/
section
variable {X : Cx} {B : Hp} {ss : List SD} {st : Stmt} {rest sts els : List Stmt} {Z M : Addr → Prop} {σ : L2.St} {H : Hp} {D : Ends}
theorem cb_if {c : Expr} {t : Bool} {pos : Pos} (hh : Held X.K B Z M σ H ss) (hc : DT X B ss c t) (h1 : t = true → ∀ H', Ex H H' → cB X sts { D with nx := cB X rest D } σ H') (h2 : t = false → ∀ H', Ex H H' → cB X els { D with nx := cB X rest D } σ H') : cB X (.If c sts els pos :: rest) D σ H :=
  cb_cs ⟨_, ps_if (tc := cT X c) (t := cB X sts) (u := cB X els) cT_ok cB_ok cB_ok, hc Z M σ H hh _ fun H1 e1 => by
    cases t with
    | true =>
      show cB X sts _ σ H1
      exact h1 rfl H1 e1
    | false =>
      show cB X els _ σ H1
      exact h2 rfl H1 e1⟩
theorem cs_rng {x : Str} {a : Expr} {p q pos px : Pos} {n : Nat} (ix : Nat) (hp : PassesOwn (model X.prog X.w) X.A X.env X.xe) (hc : X.calm = true) (nd : X.N.Nodup) (hm : X.mg "range" = none) (hh : Held X.K B Z M σ H ss) (h : DE X B ss a (.int (n : Nat))) (hn : n ≤ 1000000) (Ih : Nat → L2.St → Hp → Prop) (h0 : ∀ H', Ex H H' → Ih 0 σ H')
    (hb : ∀ i σ' H', i < n → Ih i σ' H' → cB X sts { D with nx := Ih (i + 1), ct := Ih (i + 1), bk := D.nx } (σ'.set ix (some (.int (i : Nat)))) H') (hd : ∀ σ' H', Ih n σ' H' → D.nx σ' H') (hg : Gl X "range" := by rfl) (hs : starEach [a] X.env = [(false, eval a X.env)] := by rfl)
    (hi : X.N[ix]? = some x := by rfl) (hx : Loc X.env.scope x := by first | exact Or.inl rfl | exact Or.inr rfl) (hf : X.fn x = true ∨ X.env.scope.names.lookup x = some .local := by first | exact .inl rfl | exact .inr rfl)
    (hs2 : ∀ x, foldedSetIterable (.Call (.Name "range" p) [a] [] q) X.env x = pure x := by intro _; rfl) : cS X (.For (.Name x px) (.Call (.Name "range" p) [a] [] q) sts [] pos) D σ H := by
  refine ⟨_, ps_for (g := gName ix) (tb := cB X sts) hp hc (pi_range1 (ta := cA X [a]) hg hm cA_ok hs) (pg_name nd hi hx hf) cB_ok hs2, da_cons h da_nil hs Z M σ H hh _ fun vs H1 e1 r1 => ?_⟩
  obtain ⟨v, rfl, r2⟩ := isAll1 r1
  refine ⟨(n : Nat), by rw [r2.intv], by omega, by omega, ?_⟩
  refine ⟨fun i m σ' H' => m = n - i ∧ i ≤ n ∧ Ih i σ' H', ⟨_, rfl, Nat.zero_le _, h0 H1 e1⟩, ?_⟩
  rintro i m σ' H' ⟨rfl, hle, hI⟩
  by_cases hlt : i < n
  · refine .inr ⟨?_, fun σ2 H2 => Ih (i + 1) σ2 H2, fun σ2 H2 q => ⟨n - (i + 1), by omega, rfl, hlt, q⟩, fun x H2 y => ?_⟩
    · show i < ((n : Nat) : Int).toNat
      rw [Int.toNat_natCast]; exact hlt
    · obtain ⟨rfl, rfl⟩ := y
      have q := hb i σ' H2 hlt hI
      have e0 : (0 : Int) + (i : Nat) = (i : Nat) := Int.zero_add _
      show cB X sts _ (σ'.set ix (some (.int (0 + (i : Nat))))) H2
      rw [e0]
      exact q
  · have e : i = n := by omega
    subst e
    refine .inl ⟨?_, hd σ' H' hI⟩
    show ((i : Nat) : Int).toNat ≤ i
    rw [Int.toNat_natCast]
    exact Nat.le_refl _
end
end Hk
end
section
set_option Elab.async false
set_option linter.all false
set_option maxRecDepth 100000
set_option maxHeartbeats 1000000
set_option exponentiation.threshold 100000
namespace Hk
open PySem PySem.Spec PyProof.Rows L2
open Evl (Ex)
open Hq
section
variable {K : PySem.W.Frag} {B : Hp} {Z M : Addr → Prop} {σ : L2.St} {H : Hp} {ss : List SD}
/-- a list of one's own changes no more; its place is told -/
theorem Held.frzE (h : Held K B Z M σ H ss) {i : Nat} {ys : List PyData} (e : ss[i]? = some (.m ys)) : ∃ p vs, σ[i]? = some (some (.ref p)) ∧ H p = some (.lst vs) ∧ IsAll K (cut M H) vs ys ∧ Held K B Z (fun a => M a ∧ a ≠ p) σ H (ss.set i (.d (.list ys))) := by
  obtain ⟨p, vs, hp, hv, ha, m, nB⟩ := h.getM e
  have hi : i < ss.length := (List.getElem?_eq_some_iff.mp e).1
  have sub : Ex (cut M H) (cut (fun a => M a ∧ a ≠ p) H) := cut_less fun a q => q.1
  refine ⟨p, vs, hp, hv, ha, h.ex, fun a z => ⟨h.zM a z, fun q => ?_⟩, fun a q => h.mB a q.1, fun a q => h.mH a q.1, h.zB, by simp [h.len], fun j x sd a b => ?_, fun j q us a b => ?_, fun j k q us ws a b c d => ?_⟩
  · obtain ⟨xs, z'⟩ := h.zB a z
    rw [q, nB] at z'; cases z'
  · by_cases ej : i = j
    · subst ej
      rw [List.getElem?_set_self hi] at b
      rw [hp] at a
      cases a; cases b
      exact ⟨.ref p, rfl, .lst (by rw [cut_of (fun q => q.2 rfl)]; exact hv) (ha.up sub)⟩
    · rw [List.getElem?_set_ne ej] at b
      exact (h.slot j x sd a b).up sub (Ex.refl H)
  · by_cases ej : i = j
    · subst ej
      rw [List.getElem?_set_self hi] at a
      cases a
    · rw [List.getElem?_set_ne ej] at a
      obtain ⟨m', z⟩ := h.mm j q us a b
      exact ⟨⟨m', fun z => ej (h.inj i j p ys us e a hp (by rw [b, z]))⟩, z⟩
  · have f : ∀ (j : Nat) (ws : List PyData), (ss.set i (.d (.list ys)))[j]? = some (.m ws) → ss[j]? = some (.m ws) := fun j ws b => by
      by_cases ej : i = j
      · subst ej; rw [List.getElem?_set_self hi] at b; cases b
      · rw [List.getElem?_set_ne ej] at b; exact b
    exact h.inj j k q us ws (f j us a) (f k ws b) c d
end
section
variable {X : Cx} {B : Hp} {ss : List SD} {rest : List Stmt} {Z M : Addr → Prop} {σ : L2.St} {H : Hp} {D : Ends} {a b e : Expr} {d d0 d1 : PyData} {xs ds : List PyData}
/-- (e, e', own list) -/
theorem ev_pair3 {x : Str} {px pos : Pos} {j : Nat} (s : Nat) (hh : Held X.K B Z M σ H ss) (hm : ss[s]? = some (.m xs)) (h0 : DE X B ss a d0) (h1 : DE X B ss b d1) (Q : VK)
    (k : ∀ T v0 v1 p H', σ[s]? = some (some (.ref p)) → M p → Ex H H' → H' T = some (.tup [v0, v1, .ref p]) → Is X.K (cut M H') v0 d0 → Is X.K (cut M H') v1 d1 → Q (.ref T) H')
    (hN : X.N[s]? = some x := by rfl) (hv : Vis X.env.scope x := by first | exact Or.inl rfl | exact Or.inr (Or.inl rfl) | exact Or.inr (Or.inr rfl)) (hd : (x == ("__debug__" : Str)) = false := by decide) (hcd : (x == ("__classdict__" : Str)) = false := by decide)
    (hs : starEach [a, b, .Name x px] X.env = (false, eval a X.env) :: starEach [b, .Name x px] X.env := by rfl) (hs2 : starEach [b, .Name x px] X.env = (false, eval b X.env) :: starEach [.Name x px] X.env := by rfl)
    (hs3 : starEach [.Name x px] X.env = (false, eval (.Name x px) X.env) :: starEach [] X.env := by rfl) : cE X (.Tuple [a, b, .Name x px] j pos) σ H Q := by
  obtain ⟨p, vs, hp, hv1, ha, m, nB⟩ := hh.getM hm
  refine ⟨_, pe_tup (pa_cons (te := cE X a) cE_ok (pa_cons (te := cE X b) cE_ok (pa_cons (pe_var hN hv hd hcd) pa_nil hs3) hs2) hs), h0 Z M σ H hh _ fun v0 H1 e1 r0 => h1 Z M σ H1 (hh.step e1) _ fun v1 H2 e2 r1 => ?_⟩
  refine ⟨.ref p, hp, ⟨by show 3 ≤ sizeLine; decide, fun T hT => k T v0 v1 p _ hp m ((e1.trans e2).trans (Ex.new hT)) upd_same ((r0.up (cut_ex e2)).up (cut_ex (Ex.new hT))) (r1.up (cut_ex (Ex.new hT)))⟩⟩
/-- xs[i] = e where the list's place is told -/
theorem cb_putV {x : Str} {po ps pos : Pos} {p : Addr} {vs : List V} {j : Int} {n : Nat} (s : Nat) (hh : Held X.K B Z M σ H ss) (hv0 : ss[s]? = some (.v (.ref p))) (zp : Z p) (hB : B p = some (.lst vs)) (he : DEz X B Z ss e d) (hi : DE X B ss b (.int j)) (hj : j = (n : Int)) (hn : n < vs.length)
    (k : ∀ v H', Ex H H' → Is X.K (cut M H') v d → Held X.K (cut (fun a => M a ∧ ¬ Z a) (upd H' p (.lst (vs.set n v)))) Z M σ (upd H' p (.lst (vs.set n v))) ss → cB X rest D σ (upd H' p (.lst (vs.set n v)))) (hN : X.N[s]? = some x := by rfl)
    (hv : Vis X.env.scope x := by first | exact Or.inl rfl | exact Or.inr (Or.inl rfl) | exact Or.inr (Or.inr rfl)) (hd : (x == ("__debug__" : Str)) = false := by decide) (hcd : (x == ("__classdict__" : Str)) = false := by decide)
    (ha : ∀ v, assign (.Subscript (.Name x po) b ps) X.env v = (do
      let ov ← holding [v] (eval (.Name x po) X.env)
      let iv ← holding [v, ov] (eval b X.env)
      standAt ps
      holding [v, ov, iv] (setItem ov iv v)
      release [v, ov, iv] []) := by intro _; rfl)
    (hs : swapsWithSole [.Subscript (.Name x po) b ps] e pos.line X.env = pure false := by rfl) (hw : swappedStores [.Subscript (.Name x po) b ps] e X.env = pure none := by rfl) (h1 : (assignEach [.Subscript (.Name x po) b ps] X.env).map (·.2) = [assign (.Subscript (.Name x po) b ps) X.env] := by rfl) :
    cB X (.Assign [.Subscript (.Name x po) b ps] e pos :: rest) D σ H := by
  refine cb_cs ⟨_, ps_asg (te := cE X e) cE_ok (pg_sub (ti := cE X b) (pe_var hN hv hd hcd) cE_ok set_list ha) hs hw h1, he M σ H hh _ fun v H1 e1 r1 => ?_⟩
  have hh1 := hh.step e1
  refine ⟨.ref p, hh.getV hv0, hi Z M σ H1 hh1 _ fun w H2 e2 r2 => ?_⟩
  cases r2.intv
  have hh2 := hh1.step e2
  refine ⟨p, vs, j, n, rfl, rfl, hh2.ex _ _ hB, by rw [hj]; exact Evl.ixN_nat hn, ?_⟩
  exact k v H2 (e1.trans e2) (r1.up (cut_ex e2)) (hh2.mutZ zp)
end
theorem num_mhalf : num (-1 / 2) = .tuple [.int (-1), .int 2] := by
  unfold num
  have h1 : (-1 / 2 : Rat).num = -1 := by decide +kernel
  have h2 : (-1 / 2 : Rat).den = 2 := by decide +kernel
  rw [h1, h2]
  rfl
theorem num_el : num (11 / 10) = .tuple [.int 11, .int 10] := by
  unfold num
  have h1 : (11 / 10 : Rat).num = 11 := by decide +kernel
  have h2 : (11 / 10 : Rat).den = 10 := by decide +kernel
  rw [h1, h2]
  rfl
theorem par_at (dr : List Int) (k : Nat) (h : k < npOf dr) : atI ((parsOf dr).map PyData.int) (k : Int) = some (.int (node0 dr k).par) := by
  have h2 : k < (parsOf dr).length := h
  have e : (node0 dr k).par = (parsOf dr).getD k 0 := rfl
  rw [e]
  exact atI_map PyData.int (getD_at h2)
theorem pay_map : [num 0, num 0, num 1, num (-1 / 2)] = payL.map num := rfl
theorem dc_is {X : Cx} {B : Hp} {ss : List SD} {elt tg it : Expr} {ifs : List Expr} {scope : Scope} {ds es : List PyData} (h : DC X B ss elt tg it ifs scope ds) (q : ds = es) : DC X B ss elt tg it ifs scope es := q ▸ h
def poolDD (dr : List Int) : PyData := .list ((List.range 4).map fun k => .str (poolOne (dAt dr 0) (dAt dr 1) k))
abbrev stA (ns dr : List Int) (c7 c8 c9 c10 c11 c12 c13 c14 c15 c16 c17 c18 c19 c20 c21 c22 : SD) : List SD := [.d (scrD ns), .d (zsD dr), .d (poolDD dr), .d (.int (manyOf dr : Nat)), .d (zsD (parsOf dr)), .d (.list (menuR.map ruleD)), .d (numL (growsOf (npOf dr))), c7, c8, c9, c10, c11, c12, c13, c14, c15, c16, c17, c18, c19, c20, c21, c22]
theorem dl_is {X : Cx} {B : Hp} {ss : List SD} {e : Expr} {ds es : List PyData} (h : DL X B ss e ds) (q : ds = es) : DL X B ss e es := q ▸ h
theorem int_cast {i : Int} {n : Nat} (h : i = (n : Int)) : PyData.int i = .int (n : Nat) := congrArg PyData.int h
theorem price_ok (z : Int) (h : 0 ≤ z ∧ z < 1000) : 1 + z / 18 % 2 ≠ 0 ∧ (z % 18 - 6).natAbs < 2 ^ 9000 ∧ (1 + z / 18 % 2).natAbs < 2 ^ 9000 := ⟨by omega, lt9000 (by omega), lt9000 (by omega)⟩
theorem R_price (z : Int) (h : 0 ≤ z ∧ z < 1000) : R_Lnumber [.int (z % 18 - 6), .int (1 + z / 18 % 2)] (num (Rat.divInt (z % 18 - 6) (1 + z / 18 % 2))) := ⟨_, _, rfl, (price_ok z h).1, (price_ok z h).2.1, (price_ok z h).2.2, rfl⟩
theorem sc_L_market : FnScope ["_law_script", "_law_draws_here", "_law_names", "_law_many", "_law_parents_here", "_law_menu", "_law_growths", "_law_nodes", "_law_k", "_law_at", "_law_part", "_law_growth", "_law_rules", "_law_prices", "_law_payouts", "_law_letters", "_law_market_here", "_law_lists", "_law_back", "_law_here", "_law_more", "_law_n", "_law_node"] ["_law_script"] (defScope st_L_market) := ⟨rfl, rfl, rfl, by decide +kernel, rfl, by decide +kernel, by decide +kernel⟩
theorem letters_len : lettersS.cps.toList.length = 26 := by decide +kernel
theorem grows_len (np : Nat) : 0 < (growsOf np).length := by unfold growsOf; split <;> decide
end Hk
end
section
set_option Elab.async false
set_option linter.all false
set_option maxRecDepth 100000
set_option maxHeartbeats 1000000
set_option exponentiation.threshold 100000
namespace Hk
open PySem PySem.Spec PyProof.Rows L2
open Evl (Ex)
open Hq
abbrev NM : List Str := ["_law_script", "_law_draws_here", "_law_names", "_law_many", "_law_parents_here", "_law_menu", "_law_growths", "_law_nodes", "_law_k", "_law_at", "_law_part", "_law_growth", "_law_rules", "_law_prices", "_law_payouts", "_law_letters", "_law_market_here", "_law_lists", "_law_back", "_law_here", "_law_more", "_law_n", "_law_node"]
abbrev XM (P : Program) (w : World) (K : PySem.W.Frag) (mg : Str → Option Value) (base : Heap) (f : Addr) (cdv : Value) (A : Around) (outer : List Env) (s : Shared) (H : Hp) (E : XK) : Cx := (cxOf CX0 P w K mg base NM dd_L_market.qual dd_L_market.scope f cdv A outer s H E).nox
theorem empties {K : PySem.W.Frag} {H : Hp} {M : Addr → Prop} {p q : Addr} {vs : List V} (hp : H p = some (.lst vs)) (h0 : vs ≠ []) : ∀ {us : List V} {n : Nat}, IsAll K (cut (fun a => (M a ∧ a ≠ p) ∨ a = q) H) us (List.replicate n (.list [])) → IsAll K (cut (fun a => M a ∨ a = q) H) us (List.replicate n (.list []))
  | _, 0, h => by cases h; exact .nil
  | _, n + 1, h => by
    rw [List.replicate_succ] at h ⊢
    cases h with
    | cons r t =>
      refine .cons ?_ (empties hp h0 t)
      cases r with
      | lst h1 t1 =>
        cases t1
        rename_i a
        have n1 : ¬ ((M a ∧ a ≠ p) ∨ a = q) := fun z => by rw [cut_on z] at h1; cases h1
        rw [cut_of n1] at h1
        have n2 : ¬ (M a ∨ a = q) := fun z => by
          rcases z with z | z
          · by_cases e : a = p
            · rw [e, hp] at h1
              injection h1 with h1
              injection h1 with h1
              exact h0 h1
            · exact n1 (.inl ⟨z, e⟩)
          · exact n1 (.inr z)
        exact .lst (by rw [cut_of n2]; exact h1) .nil
section
variable {P : Program} {w : World} {K : PySem.W.Frag} {mg : Str → Option Value} {base : Heap}
variable {f : Addr} {cdv : Value} {A : Around} {outer : List Env} {s : Shared} {H : Hp} {E : XK}
/-- what holds behind so many turns of the last loop -/
def Ihm (K : PySem.W.Frag) (B0 : Hp) (ns dr : List Int) (Z1 : Addr → Prop) (p T : Addr) (i : Nat) (σ : L2.St) (H : Hp) : Prop := ∃ (B : Hp) (M : Addr → Prop) (vs : List V) (c8 c9 c10 c11 c12 c13 c14 c18 c19 c20 : SD) (v0 v1 : V),
  Held K B Z1 M σ H (stA ns dr (.v (.ref p)) c8 c9 c10 c11 c12 c13 c14 (.d (.str lettersS)) (.v (.ref T)) (.m ((stateM dr i).2.map numL)) c18 c19 c20 .no .no) ∧ B p = some (.lst vs) ∧ IsAll K (cut Z1 B) vs ((stateM dr i).1.nodes.map nodeD) ∧
  B T = some (.tup [v0, v1, .ref p]) ∧ Is K (cut Z1 B) v0 (.list (namesD dr)) ∧ Is K (cut Z1 B) v1 (.list []) ∧ Ex B0 B
theorem market_in {Z1 : Addr → Prop} {B : Hp} {vs : List V} {v0 v1 : V} {p T : Addr} {names : List PyData} {m : Market} (hB : B p = some (.lst vs)) (hA : IsAll K (cut Z1 B) vs (m.nodes.map nodeD)) (hT : B T = some (.tup [v0, v1, .ref p])) (h0 : Is K (cut Z1 B) v0 (.list names)) (h1 : Is K (cut Z1 B) v1 (.list [])) :
    Is K B (.ref p) (nodesD m) ∧ Is K B (.ref T) (marketD names m) := by
  have hp : Is K B (.ref p) (nodesD m) := .lst hB (hA.up cut_full)
  exact ⟨hp, .tup (SqT.of hT) (.cons (h0.up cut_full) (.cons (h1.up cut_full) (.cons hp .nil)))⟩
theorem state_next (dr : List Int) (i : Nat) : stateM dr (i + 1) = stepM dr (stateM dr i) (npOf dr - 1 - i) := rfl
/-- one turn -/
theorem market_turn (T0 : Top K mg) (hr : Room 7 (A.deeper (envOfC dd_L_market.qual dd_L_market.scope s.heap.objs.size f cdv))) {ns dr : List Int} (dl : dr.length = 220) (mok : MarketOk dr) {B0 : Hp} {Z1 : Addr → Prop} {p T : Addr} (zp : Z1 p) (nB0 : B0 p = none) {i : Nat} (hi : i < npOf dr) {σ : L2.St} {H1 : Hp} {D : Ends}
    (hI : Ihm K B0 ns dr Z1 p T i σ H1) (hD : ∀ σ' H', Ihm K B0 ns dr Z1 p T (i + 1) σ' H' → D.nx σ' H') :
    cB (XM P w K mg base f cdv A outer s H E) (match dd_L_market.body.getD 12 (.Pass ⟨0, 0, 0, 0⟩) with | .For _ _ b _ _ => b | _ => []) D (σ.set 18 (some (.int (i : Nat)))) H1 := by
  obtain ⟨B, M, vs, c8, c9, c10, c11, c12, c13, c14, c18, c19, c20, v0, v1, h, hB, hA, hT, hv0, hv1, eB0⟩ := hI
  have nd := sc_L_market.nd
  obtain ⟨np1, np2⟩ := np_le dr
  obtain ⟨l1, l2, l3⟩ := stateM_len dr i
  have hsn := state_next dr i
  generalize hS : stateM dr i = S at h hA l1 l2 l3 hsn
  obtain ⟨W, hok⟩ : StepOk dr S (npOf dr - 1 - i) := hS ▸ mok i hi
  obtain ⟨hpB, hTB⟩ := market_in hB hA hT hv0 hv1
  generalize hk0 : npOf dr - 1 - i = k at hok hsn
  have hk : k < S.1.nodes.length := by omega
  have h1 := h.setD 18 (v := .int (i : Nat)) (y := .int (i : Nat)) (.int _)
  refine cb_step (mid := fun z => z = stA ns dr (.v (.ref p)) (.d (.int (k : Nat))) c9 c10 c11 c12 c13 c14 (.d (.str lettersS)) (.v (.ref T)) (.m (S.2.map numL)) (.d (.int (i : Nat))) c19 c20 .no .no) h1 (ds_set 8 nd (d := .int (k : Nat)) (de_is (de_sub (de_sub (de_lenF (T0.free _ (by decide)) (def_v (dv_slot 7 rfl) hpB)) de_int) (de_var 18 rfl)) (int_cast (by rw [List.length_map, l1]; omega))) rfl) ?_
  rintro _ M2 σ2 H2 rfl h2
  refine cb_step (mid := fun z => z = stA ns dr (.v (.ref p)) (.d (.int (k : Nat))) c9 c10 c11 c12 c13 c14 (.d (.str lettersS)) (.v (.ref T)) (.m (S.2.map numL)) (.d (.int (i : Nat))) (.d (.int ((kids S.1 k).length : Nat))) c20 .no .no) h2 (ds_set 19 nd (d := .int ((kids S.1 k).length : Nat)) (de_is (de_lenF (xs := (kids S.1 k).map fun i => .int (i : Nat)) (T0.free _ (by decide)) (def_call (fn_L_children T0) (hr.mono (by decide)) (daf_cons (def_v (dv_slot 16 rfl) hTB) (daf_cons (def_of (de_var 8 rfl)) daf_nil)) ⟨_, _, _, rfl, W, rfl⟩)) (by rw [List.length_map])) rfl) ?_
  rintro _ M3 σ3 H3 rfl h3
  refine cb_if (t := decide (0 < (kids S.1 k).length)) h3 (dt_is (dt_cmp cmp_gt (de_var 19 rfl) de_int) (decide_eq_decide.mpr (by omega))) (fun ht H4 e4 => ?_) (fun ht H4 e4 => cb_nil (cb_nil (hD _ _ ?_)))
  · have h4 := h3.step e4
    have hpos := of_decide_eq_true ht
    obtain ⟨o1, o2, o3⟩ := hok hpos
    have hk18 : k < 18 := by omega
    have lat : latOf k + 6 ≤ 220 := by unfold latOf; omega
    refine cb_step (mid := fun z => z = stA ns dr (.v (.ref p)) (.d (.int (k : Nat))) (.d (.int (latOf k : Nat))) c10 c11 c12 c13 c14 (.d (.str lettersS)) (.v (.ref T)) (.m (S.2.map numL)) (.d (.int (i : Nat))) (.d (.int ((kids S.1 k).length : Nat))) c20 .no .no) h4 (ds_set 9 nd (d := .int (latOf k : Nat)) (de_is (de_add de_int (de_mod (de_intI (T0.free _ (by decide)) (de_mul64 de_int (de_var 8 rfl) (.inl ⟨by decide, by decide⟩))) de_int (by decide))) (int_cast (by unfold latOf; omega))) rfl) ?_
    rintro _ M5 σ5 H5 rfl h5
    have kl2 : k < (S.2.map numL).length := by rw [List.length_map]; omega
    let w0 := weightsQ (sliceZ dr (latOf k) 6) (kids S.1 k).length
    refine cb_step (mid := fun z => z = stA ns dr (.v (.ref p)) (.d (.int (k : Nat))) (.d (.int (latOf k : Nat))) c10 c11 c12 c13 c14 (.d (.str lettersS)) (.v (.ref T)) (.m ((S.2.map numL).set k (numL w0))) (.d (.int (i : Nat))) (.d (.int ((kids S.1 k).length : Nat))) c20 .no .no) h5 (ds_put (n := k) 17 rfl (d := numL w0) (de_call (fn_L_weights T0) (hr.mono (by decide)) (da_cons (d := zsD (sliceZ dr (latOf k) 6)) (de_dl (dl_is (dl_slice (de_var 1 rfl) (do_some (de_var 9 rfl)) (do_some (de_is (de_add (de_var 9 rfl) de_int) (int_cast (n := latOf k + 6) (by omega))))) ((cutD_slice dr (by omega) (by omega)).trans (by rw [Nat.add_sub_cancel_left])))) (da_cons (de_var 19 rfl) da_nil)) ⟨_, _, rfl, by rw [slice_len (by omega)]; exact o1, by omega, rfl⟩) (de_var 8 rfl) rfl kl2 rfl) ?_
    rintro _ M6 σ6 H6 rfl h6
    refine cb_step (mid := fun z => z = stA ns dr (.v (.ref p)) (.d (.int (k : Nat))) (.d (.int (latOf k : Nat))) c10 c11 c12 c13 c14 (.d (.str lettersS)) (.v (.ref T)) (.m ((S.2.set k (wsOf dr S.1 k)).map numL)) (.d (.int (i : Nat))) (.d (.int ((kids S.1 k).length : Nat))) c20 .no .no) h6 (ds_if (t := decide (7 < npOf dr)) (dt_is (dt_cmp cmp_gt (de_lenL (T0.free _ (by decide)) (de_var 4 rfl)) de_int) (by rw [List.length_map]; exact decide_eq_decide.mpr (by show (7 : Int) < ((npOf dr : Nat) : Int) ↔ 7 < npOf dr; omega))) (fun ht2 => ?_) (fun ht2 => dss_nil ?_)) ?_
    · have h7 : 7 < npOf dr := of_decide_eq_true ht2
      have ew : wsOf dr S.1 k = plainQ (dAt dr (latOf k)) (kids S.1 k).length := if_pos h7
      refine dss_one (ds_put (n := k) 17 rfl (d := numL (plainQ (dAt dr (latOf k)) (kids S.1 k).length)) (de_call (fn_L_plain_weights T0) (hr.mono (by decide)) (da_cons (de_ixL (de_var 1 rfl) (de_var 9 rfl) (atI_map PyData.int (getD_at (z := 0) (by omega)))) (da_cons (de_var 19 rfl) da_nil)) ⟨_, _, rfl, o2 h7, rfl⟩) (de_var 8 rfl) rfl (by rw [List.length_set]; exact kl2) ?_)
      rw [List.set_set, ew, List.map_set]
      rfl
    · have h7 : ¬ 7 < npOf dr := of_decide_eq_false ht2
      have ew : wsOf dr S.1 k = w0 := if_neg h7
      rw [ew, List.map_set]
    rintro _ M7 σ7 H7 rfl h7
    have atl : atOf k + 17 ≤ 220 := by unfold atOf; omega
    refine cb_step (mid := fun z => z = stA ns dr (.v (.ref p)) (.d (.int (k : Nat))) (.d (.int (latOf k : Nat))) c10 c11 c12 c13 c14 (.d (.str lettersS)) (.v (.ref T)) (.m ((S.2.set k (wsOf dr S.1 k)).map numL)) (.d (.int (i : Nat))) (.d (.int ((kids S.1 k).length : Nat))) (.m ((moreOf dr k).map .int)) .no .no) h7 (ds_setL 20 nd (ds := (moreOf dr k).map .int) (dl_is (dl_slice (de_var 1 rfl) (do_some (de_is (de_add (de_add de_int (de_mod (de_intI (T0.free _ (by decide)) (de_mul64 de_int (de_var 8 rfl) (.inl ⟨by decide, by decide⟩))) de_int (by decide))) de_int) (int_cast (n := atOf k + 13) (by unfold atOf; omega))))
      (do_some (de_is (de_add (de_add de_int (de_mod (de_intI (T0.free _ (by decide)) (de_mul64 de_int (de_var 8 rfl) (.inl ⟨by decide, by decide⟩))) de_int (by decide))) de_int) (int_cast (n := atOf k + 17) (by unfold atOf; omega))))) ((cutD_slice dr (by omega) (by omega)).trans (by
        have e : atOf k + 17 - (atOf k + 13) = 4 := by omega
        rw [e]; rfl))) rfl) ?_
    rintro _ M8 σ8 H8 rfl h8
    obtain ⟨M9, _, h9⟩ := h8.frz (i := 20) rfl
    have ml : (moreOf dr k).length = 4 := slice_len (by omega)
    have wn := W.at_ hk
    refine cb_step (mid := fun z => z = stA ns dr (.v (.ref p)) (.d (.int (k : Nat))) (.d (.int (latOf k : Nat))) c10 c11 c12 (.m ((pricesQ S.1 k (wsOf dr S.1 k) (moreOf dr k)).map num)) c14 (.d (.str lettersS)) (.v (.ref T)) (.m ((S.2.set k (wsOf dr S.1 k)).map numL)) (.d (.int (i : Nat))) (.d (.int ((kids S.1 k).length : Nat))) (.d (zsD (moreOf dr k))) .no .no) h9 (ds_callF 13 nd (fn_L_node_prices T0) hr (daf_cons (def_v (dv_slot 16 rfl) hTB) (daf_cons (def_of (de_var 8 rfl)) (daf_cons (d := .list ((nodeAt S.1 k).rules.map ruleD)) (def_ixT (def_ixL (def_v (dv_slot 7 rfl) hpB) (de_var 8 rfl) (atI_map nodeD (nodeAt_get hk))) de_int rfl)
      (daf_cons (d := numL (wsOf dr S.1 k)) (def_of (de_ixM 17 rfl (de_var 8 rfl) (atI_map numL (by rw [List.getElem?_set_self (by omega)])))) (daf_cons (d := zsD (moreOf dr k)) (def_of (de_var 20 rfl)) daf_nil))))) ⟨_, _, _, _, _, rfl, W, hk, o3, by rw [ml, l3]; exact (many_rng dr).2.1, rfl⟩ (flat_nums _) rfl) ?_
    rintro _ M10 σ10 H10 rfl h10
    obtain ⟨M11, _, h11⟩ := h10.frz (i := 13) rfl
    have hnl : k < vs.length := by rw [hA.len, List.length_map]; exact hk
    have hgd : (S.1.nodes.map nodeD)[k]? = some (nodeD (nodeAt S.1 k)) := by rw [List.getElem?_map, nodeAt_get hk]; rfl
    refine cb_putV (n := k) (d := nodeD (newNode dr S.1 k)) 7 h11 rfl zp hB (dez_tup (daz_cons (dez_ixT (dez_ixV (dv_slot 7 rfl) hB hA (de_var 8 rfl) rfl hgd) de_int rfl) (daz_cons (dez_ixT (dez_ixV (dv_slot 7 rfl) hB hA (de_var 8 rfl) rfl hgd) de_int rfl) (daz_cons (dez_ixT (dez_ixV (dv_slot 7 rfl) hB hA (de_var 8 rfl) rfl hgd) de_int rfl)
      (daz_cons (dez_of (de_var 13 rfl)) (daz_cons (dez_ixT (dez_ixV (dv_slot 7 rfl) hB hA (de_var 8 rfl) rfl hgd) de_int rfl) (daz_cons (dez_of (de_dl (dl_lst da_nil))) daz_nil))))))) (de_var 8 rfl) rfl hnl (fun v H12 e12 rv h12 => cb_nil (cb_nil (hD _ _ ?_)))
    have vis := (h11.step e12).vis
    have zM := h12.zM
    have eN := ex_now (M := M11) (Z := Z1) (H := upd H12 p (.lst (vs.set k v))) zM
    have cu : cut M11 (upd H12 p (.lst (vs.set k v))) = cut M11 H12 := cut_upd (zM p zp)
    have toN : Ex (cut Z1 B) (cut Z1 (cut (fun a => M11 a ∧ ¬ Z1 a) (upd H12 p (.lst (vs.set k v))))) := by
      rw [cu] at eN
      exact vis.trans eN
    have hTn : p ≠ T := fun q => by rw [← q, hB] at hT; cases hT
    rw [← cu] at rv
    have e1 : stateM dr (i + 1) = (⟨S.1.many, S.1.nodes.set k (newNode dr S.1 k)⟩, S.2.set k (wsOf dr S.1 k)) := by rw [hsn]; exact if_pos hpos
    have nT : ¬ M11 T := fun m => by
      obtain ⟨xs, q⟩ := (h11.step e12).mH T m
      have q2 := (h11.step e12).ex _ _ hT
      rw [q] at q2; cases q2
    unfold Ihm
    rw [e1]
    refine ⟨_, M11, vs.set k v, .d (.int (k : Nat)), .d (.int (latOf k : Nat)), c10, c11, c12, .d (.list ((pricesQ S.1 k (wsOf dr S.1 k) (moreOf dr k)).map num)), c14, .d (.int (i : Nat)), .d (.int ((kids S.1 k).length : Nat)), .d (zsD (moreOf dr k)), v0, v1, h12, ?_, ?_, ?_, hv0.up toN, hv1.up toN, fun a o q => ?_⟩
    · rw [cut_of fun q => q.2 zp]; exact upd_same
    · show IsAll K _ _ ((S.1.nodes.set k (newNode dr S.1 k)).map nodeD)
      rw [List.map_set]
      exact (hA.up toN).set k (rv.up eN)
    · rw [cut_of fun q => nT q.1, upd_ne (Ne.symm hTn)]
      exact (h11.step e12).ex _ _ hT
    · have q1 := eB0 a o q
      have np : a ≠ p := fun z => by rw [z, nB0] at q; cases q
      rw [cut_of (fun z => (h11.mB a z.1).elim z.2 (fun y => by rw [y] at q1; cases q1)), upd_ne np]
      exact (h11.step e12).ex _ _ q1
  · have hn0 : ¬ 0 < (kids S.1 k).length := of_decide_eq_false ht
    have e1 : stateM dr (i + 1) = S := by rw [hsn]; exact if_neg hn0
    unfold Ihm
    rw [e1]
    exact ⟨B, _, vs, .d (.int (k : Nat)), c9, c10, c11, c12, c13, c14, .d (.int (i : Nat)), .d (.int ((kids S.1 k).length : Nat)), c20, v0, v1, h3.step e4, hB, hA, hT, hv0, hv1, eB0⟩
end
end Hk
end
section
set_option Elab.async false
set_option linter.all false
set_option maxRecDepth 100000
set_option maxHeartbeats 1000000
set_option exponentiation.threshold 100000
namespace Hk
open PySem PySem.Spec PyProof.Rows L2
open Evl (Ex)
open Hq
section
variable {P : Program} {w : World} {K : PySem.W.Frag} {mg : Str → Option Value} {base : Heap}
variable {f : Addr} {cdv : Value} {A : Around} {outer : List Env} {s : Shared} {H : Hp} {E : XK}
theorem stateM0 (dr : List Int) : stateM dr 0 = (mkt0 dr, List.replicate (npOf dr) []) := rfl
theorem market_tail (T0 : Top K mg) (hr : Room 7 (A.deeper (envOfC dd_L_market.qual dd_L_market.scope s.heap.objs.size f cdv))) {ns dr : List Int} (dl : dr.length = 220) (drg : ∀ d ∈ dr, 0 ≤ d ∧ d < 1000) (mok : MarketOk dr) {Z M : Addr → Prop} {B : Hp} {σ : L2.St} {H1 : Hp} {D : Ends} {c8 c9 c10 c11 c12 c13 c14 : SD}
    (hh : Held K B Z M σ H1 (stA ns dr (.m ((mkt0 dr).nodes.map nodeD)) c8 c9 c10 c11 c12 c13 c14 (.d (.str lettersS)) .no .no .no .no .no .no .no))
    (hD : ∀ v H', Ex B H' → Is K (cut Z H') v (.tuple [marketD (namesD dr) (stateM dr (npOf dr)).1, numLL (stateM dr (npOf dr)).2]) → D.rt v H') :
    cB (XM P w K mg base f cdv A outer s H E) (dd_L_market.body.drop 10) D σ H1 := by
  have nd := sc_L_market.nd
  obtain ⟨np1, np2⟩ := np_le dr
  obtain ⟨mr1, mr2, mr3⟩ := many_rng dr
  have nl : ((mkt0 dr).nodes.map nodeD).length = npOf dr := by rw [List.length_map]; exact (stateM_len dr 0).1
  obtain ⟨r00, r01⟩ : 0 ≤ dAt dr 0 ∧ dAt dr 0 < 1000 := dAt_rng drg 0
  obtain ⟨r10, r11⟩ : 0 ≤ dAt dr 1 ∧ dAt dr 1 < 1000 := dAt_rng drg 1
  -- the market
  refine cb_cs ⟨_, ps_set (te := cE (XM P w K mg base f cdv A outer s H E) _) (i := 16) (x := "_law_market_here") nd rfl (Or.inl rfl) cE_ok rfl (.inl rfl), ?_⟩
  refine ev_pair3 7 hh rfl (d0 := .list (namesD dr)) (d1 := .list []) (de_dl (dl_dc rfl nd (dc_map [("_law_n", 21)] (List.range (manyOf dr)) (fun i => .int (i : Nat)) (fun n => .str (nameOf dr n)) (fun n => stA ns dr (.m ((mkt0 dr).nodes.map nodeD)) c8 c9 c10 c11 c12 c13 c14 (.d (.str lettersS)) .no .no .no .no .no (.d (.int (n : Nat))) .no)
    (by rw [← rgD_map]; exact di_rng (T0.free _ (by decide)) (de_var 3 rfl) rfl (by omega)) (by rw [List.length_range]; omega) rfl (fun u hu s H C cl fp => ⟨_, (by decide), dg_name 21 nd, fun B1 e1 => ?_⟩)))) (de_dl (dl_lst da_nil)) _ ?_
  · have hu4 : u < 4 := Nat.lt_of_lt_of_le (List.mem_range.mp hu) mr2
    have m26 := mod_nat (d := dAt dr 1 + u) (n := 26) (by decide)
    have pl := poolOne_len (dAt dr 0) (dAt dr 1) u
    have cl2 := cutS_length (poolOne (dAt dr 0) (dAt dr 1) u) none (some 11)
    refine de_adds (de_ixS (i := (((dAt dr 1 + u) % 26).toNat : Nat)) (de_var 15 rfl) (de_is (de_mod (de_intI (T0.free _ (by decide)) (de_add (de_ixL (de_var 1 rfl) de_int (atI_map PyData.int (getD_at (xs := dr) (z := 0) (k := 1) (by omega)))) (de_var 21 rfl))) de_int (by decide)) (congrArg PyData.int m26.1.symm)) (by decide +kernel) (let_at (by rw [letters_len]; exact m26.2))) (de_sliceS (w := poolOne (dAt dr 0) (dAt dr 1) u) (j := some 11) (de_ixL (xs := (List.range 4).map fun k => .str (poolOne (dAt dr 0) (dAt dr 1) k)) (de_var 2 rfl) (de_var 21 rfl) (atI_nat (by rw [List.getElem?_map, List.getElem?_range hu4]; rfl))) do_none (do_some de_int) (Evl.sz_of (by omega))) ?_
    show (letS lettersS _).length + _ ≤ _
    rw [letS_len]
    exact Evl.sz_of (by omega)
  intro T v0 v1 p H2 hp mp e2 hT r0 r1
  have h2 := (hh.step e2).setV 16 (.ref T)
  -- the lists
  obtain ⟨p', vs, hp', hv, ha, h3⟩ := h2.frzE (i := 7) rfl
  have hpp : p' = p := by
    have q : (σ.set 16 (some (.ref T)))[7]? = σ[7]? := List.getElem?_set_ne (by decide)
    rw [q, hp] at hp'
    cases hp'; rfl
  subst hpp
  have vl : vs.length = npOf dr := by rw [ha.len, nl]
  have vne : vs ≠ [] := fun q => by rw [q] at vl; simp at vl; omega
  obtain ⟨own, wi, g, tt, te, d1, d2, d3, d4, d5, d6⟩ := (dc_map (X := XM P w K mg base f cdv A outer s H E) (B := B) (ss := stA ns dr (.d (.list ((mkt0 dr).nodes.map nodeD))) c8 c9 c10 c11 c12 c13 c14 (.d (.str lettersS)) (.v (.ref T)) .no .no .no .no .no .no) (a := .List [] (match dd_L_market.body.getD 11 (.Pass ⟨0, 0, 0, 0⟩) with | .Assign _ (.ListComp (.List [] q) _ _ _) _ => q | _ => ⟨0, 0, 0, 0⟩)) (tg := match dd_L_market.body.getD 11 (.Pass ⟨0, 0, 0, 0⟩) with | .Assign _ (.ListComp _ [⟨t, _, _, _⟩] _ _) _ => t | _ => .Constant .none 0 ⟨0, 0, 0, 0⟩)
    (it := match dd_L_market.body.getD 11 (.Pass ⟨0, 0, 0, 0⟩) with | .Assign _ (.ListComp _ [⟨_, t, _, _⟩] _ _) _ => t | _ => .Constant .none 0 ⟨0, 0, 0, 0⟩) (scope := match dd_L_market.body.getD 11 (.Pass ⟨0, 0, 0, 0⟩) with | .Assign _ (.ListComp _ _ sc _) _ => sc | _ => dd_L_market.scope) [("_law_node", 22)] (mkt0 dr).nodes nodeD (fun _ => .list []) (fun n => stA ns dr (.d (.list ((mkt0 dr).nodes.map nodeD))) c8 c9 c10 c11 c12 c13 c14 (.d (.str lettersS)) (.v (.ref T)) .no .no .no .no .no (.d (nodeD n)))
    (di_list (de_var 7 rfl)) (by have := (stateM_len dr 0).1; rw [stateM0] at this; show (mkt0 dr).nodes.length < _; have h : (mkt0 dr).nodes.length = npOf dr := this; omega) rfl (fun u hu s H C cl fp => ⟨_, (by decide), dg_name 22 nd, fun B1 e1 => de_dl (dl_lst da_nil)⟩)).ex
  refine cb_cs ⟨_, ps_setLc (i := 17) rfl nd rfl rfl rfl d1 d2 d3 d4 d5 (by intro _; rfl), d6 Z _ _ H2 h3 _ fun q us H3 nq e3 hq ru => ?_⟩
  have er : (mkt0 dr).nodes.map (fun _ => PyData.list []) = List.replicate (npOf dr) (.list []) := by
    have h : (mkt0 dr).nodes.length = npOf dr := (stateM_len dr 0).1
    rw [List.map_const', h]
  rw [er] at ru
  have ru2 := empties (e3 _ _ hv) vne ru
  have el : List.replicate (npOf dr) (PyData.list []) = ((stateM dr 0).2).map numL := by rw [stateM0, List.map_replicate]; rfl
  rw [el] at ru2
  have h4 := h2.setNew 17 nq e3 hq ru2
  -- the last loop
  obtain ⟨p2, vs2, hp2, hv2, ha2, nZ, nB, mp2, h5⟩ := h4.expose (i := 7) rfl
  have hT3 : H3 T = some (.tup [v0, v1, .ref p']) := e3 _ _ hT
  have hpp2 : p2 = p' := by
    have q1 : ((σ.set 16 (some (.ref T))).set 17 (some (.ref q)))[7]? = σ[7]? := by
      rw [List.getElem?_set_ne (by decide), List.getElem?_set_ne (by decide)]
    rw [q1, hp] at hp2
    cases hp2; rfl
  subst hpp2
  have zM := h5.zM
  have eN := ex_now (M := fun a => M a ∨ a = q) (Z := fun a => Z a ∨ a = p2) (H := H3) zM
  have hq0 : H2 q = none := nq
  have eM2 : Ex (cut M H2) (cut (fun a => M a ∨ a = q) H3) := fun b o z => by
    have nm : ¬ M b := fun m => by rw [cut_on m] at z; cases z
    rw [cut_of nm] at z
    have nb : b ≠ q := fun e => by rw [e, hq0] at z; cases z
    rw [cut_of (by rintro (y | y); exact nm y; exact nb y)]
    exact e3 _ _ z
  have nMT : ¬ (M T ∨ T = q) := fun m => by
    obtain ⟨xs, z⟩ := h4.mH T m
    rw [hT3] at z; cases z
  have eB1 : Ex B (cut (fun a => (M a ∨ a = q) ∧ ¬ (Z a ∨ a = p2)) H3) := fun a o z => by
    rw [cut_of fun y => (h4.mB a y.1).elim (fun x => y.2 (.inl x)) fun x => by rw [x] at z; cases z]
    exact h4.ex a o z
  have hI0 : Ihm K B ns dr (fun a => Z a ∨ a = p2) p2 T 0 ((σ.set 16 (some (.ref T))).set 17 (some (.ref q))) H3 :=
    ⟨_, _, vs2, c8, c9, c10, c11, c12, c13, c14, .no, .no, .no, v0, v1, h5, by rw [cut_of fun z => z.2 (.inr rfl)]; exact hv2, ha2.up eN, by rw [cut_of fun z => nMT z.1]; exact hT3, (r0.up eM2).up eN, (r1.up eM2).up eN, eB1⟩
  refine cb_cs (cs_rng (n := npOf dr) 18 PassesOwn.never rfl nd (T0.free _ (by decide)) h5 (de_is (de_lenF (xs := (mkt0 dr).nodes.map nodeD) (T0.free _ (by decide)) (def_v (dv_slot 7 rfl) (.lst (by rw [cut_of fun z => z.2 (.inr rfl)]; exact hv2) ((ha2.up eN).up cut_full)))) (by rw [nl])) (by omega) (fun i σ' H' => Ihm K B ns dr (fun a => Z a ∨ a = p2) p2 T i σ' H') ?_ ?_ ?_)
  · intro H' e'
    obtain ⟨B', M', ws, a8, a9, a10, a11, a12, a13, a14, a18, a19, a20, u0, u1, k1, k2⟩ := hI0
    exact ⟨B', M', ws, a8, a9, a10, a11, a12, a13, a14, a18, a19, a20, u0, u1, k1.step e', k2⟩
  · intro i σ' H' hi hI
    exact market_turn T0 hr dl mok (.inr rfl) nB hi hI fun σ2 H2 q => q
  · rintro σ' H' ⟨B', M', ws, a8, a9, a10, a11, a12, a13, a14, a18, a19, a20, u0, u1, k1, k2, k3, k4, k5, k6, k7⟩
    -- the end
    have hh6 := k1
    obtain ⟨q2, ls, hq2, hl2, hal, mq2, nB2⟩ := k1.getM (i := 17) rfl
    have zT := k1.getV (i := 16) rfl
    refine cb_cs ⟨_, ps_ret (pe_tup (pa_cons (pe_var (i := 16) (x := "_law_market_here") rfl (Or.inl rfl) (by decide) (by decide)) (pa_cons (pe_var (i := 17) (x := "_law_lists") rfl (Or.inl rfl) (by decide) (by decide)) pa_nil rfl) rfl)), .ref T, zT, .ref q2, hq2, by show 2 ≤ sizeLine; decide, fun R hR => ?_⟩
    have eR : Ex H' (upd H' R (.tup [.ref T, .ref q2])) := Ex.new hR
    have eZ : Ex (cut (fun a => Z a ∨ a = p2) B') (cut Z (upd H' R (.tup [.ref T, .ref q2]))) := fun a o z => by
      have n : ¬ (Z a ∨ a = p2) := fun m => by rw [cut_on m] at z; cases z
      rw [cut_of n] at z
      rw [cut_of fun m => n (.inl m)]
      exact eR _ _ (k1.ex _ _ z)
    have eM : Ex (cut M' H') (cut Z (upd H' R (.tup [.ref T, .ref q2]))) := fun a o z => by
      have n : ¬ M' a := fun m => by rw [cut_on m] at z; cases z
      rw [cut_of n] at z
      rw [cut_of fun m => n (k1.zM a (.inl m))]
      exact eR _ _ z
    have nZT : ¬ Z T := fun m => by
      obtain ⟨xs, y⟩ := k1.mH T (k1.zM T (.inl m))
      have y2 := k1.ex _ _ k4
      rw [y] at y2; cases y2
    have nZR : ¬ Z R := fun m => by
      obtain ⟨xs, y⟩ := k1.mH R (k1.zM R (.inl m))
      rw [hR] at y; cases y
    have nZq : ¬ Z q2 := fun m => by
      obtain ⟨xs, y⟩ := k1.zB q2 (.inl m)
      rw [nB2] at y; cases y
    refine hD (.ref R) _ ((k7.trans k1.ex).trans eR) (.tup (SqT.of (by rw [cut_of nZR]; exact upd_same)) (.cons (.tup (SqT.of (by rw [cut_of nZT]; exact eR _ _ (k1.ex _ _ k4))) (.cons (k5.up eZ) (.cons (k6.up eZ) (.cons (.lst (by rw [cut_of nZ]; exact eR _ _ (k1.ex _ _ k2)) (k3.up eZ)) .nil)))) (.cons (.lst (by rw [cut_of nZq]; exact eR _ _ hl2) (hal.up eM)) .nil)))
end
end Hk
end
section
set_option Elab.async false
set_option linter.all false
set_option maxRecDepth 100000
set_option maxHeartbeats 1000000
set_option exponentiation.threshold 100000
namespace Hk
open PySem PySem.Spec PyProof.Rows L2
open Evl (Ex)
open Hq
section
variable {P : Program} {w : World} {K : PySem.W.Frag} {mg : Str → Option Value} {base : Heap}
theorem fn_L_market (T : Top K mg) : FnIs P w K mg base "_law_market" ["_law_script"] 8 R_Lmarket := by
  refine mkD (d := dd_L_market) T 66 rfl rfl rfl sc_L_market (fun _ _ _ _ _ _ us hl => match us, hl with | [_], _ => rfl) (fun f cdv A outer s H E hr ds x hR _ => ?_)
  obtain ⟨ns, rfl, hns, mok, hx⟩ := hR
  have dl := dr_len ns
  have drg := dr_rng ns
  generalize hdr : drOf ns = dr at mok hx dl drg
  have nd := sc_L_market.nd
  intro Z M σ H0 hh D mm
  have da : ∀ i : Nat, i < 220 → atI (dr.map PyData.int) (i : Int) = some (.int (dAt dr i)) := fun i hi => atI_map PyData.int (getD_at (z := 0) (by omega))
  obtain ⟨np1, np2⟩ := np_le dr
  obtain ⟨m1, m2, m3⟩ := many_rng dr
  obtain ⟨r00, r01⟩ := dAt_rng drg 0
  obtain ⟨r10, r11⟩ := dAt_rng drg 1
  -- draws
  refine cb_step (mid := fun z => z = (startS [scrD ns] 22).set 1 (.m (dr.map .int))) hh (ds_setL 1 nd (dl_is (dl_slice (de_call (d := zsD (drawsOf ns 400)) (fn_L_draws T) (hr.mono (by decide)) (da_cons (de_var 0 rfl) (da_cons de_int da_nil)) ⟨ns, 400, rfl, by decide, hns, rfl⟩) (do_some de_int) do_none) (by rw [← hdr]; exact (cutD_from _ 180).trans List.map_drop.symm)) rfl) ?_
  rintro _ M1 σ1 H1 rfl h1
  obtain ⟨M2, _, h2⟩ := h1.frz (i := 1) rfl
  -- names, (manyOf dr), parents, menu, growths
  refine cb_step (mid := fun z => z = [.d (scrD ns), .d (zsD dr), .d (poolDD dr)] ++ List.replicate 20 .no) h2 (ds_set 2 nd (d := poolDD dr) (de_call (fn_L_pool T) (hr.mono (by decide)) (da_cons (de_ixL (de_var 1 rfl) de_int (da 0 (by decide))) (da_cons (de_ixL (de_var 1 rfl) de_int (da 1 (by decide))) (da_cons de_int da_nil))) ⟨_, _, 4, rfl, r00, r01, r10, r11, by decide, rfl⟩) rfl) ?_
  rintro _ M3 σ3 H3 rfl h3
  have hm8 := mod_nat (d := dAt dr 2) (n := 8) (by decide)
  refine cb_step (mid := fun z => z = [.d (scrD ns), .d (zsD dr), .d (poolDD dr), .d (.int ((manyOf dr) : Nat))] ++ List.replicate 19 .no) h3 (ds_set 3 nd (d := .int ((manyOf dr) : Nat)) (de_is (de_ixL (xs := manyL.map .int) (i := (((dAt dr 2 % 8).toNat : Nat) : Int)) (de_dl (dl_lst (da_cons de_int (da_cons de_int (da_cons de_int (da_cons de_int (da_cons de_int (da_cons de_int (da_cons de_int (da_cons de_int da_nil)))))))))) (de_is (de_mod (de_intI (T.free _ (by decide)) (de_ixL (de_var 1 rfl) de_int (da 2 (by decide)))) de_int (by decide)) (congrArg PyData.int hm8.1.symm)) (atI_map PyData.int (getD_at (z := 1) hm8.2))) (congrArg PyData.int m3.symm)) rfl) ?_
  rintro _ M4 σ4 H4 rfl h4
  refine cb_step (mid := fun z => z = [.d (scrD ns), .d (zsD dr), .d (poolDD dr), .d (.int ((manyOf dr) : Nat)), .d (zsD (parsOf dr))] ++ List.replicate 18 .no) h4 (ds_set 4 nd (d := zsD (parsOf dr)) (de_call (fn_L_parents T) (hr.mono (by decide)) (da_cons (de_ixL (de_var 1 rfl) de_int (da 3 (by decide))) (da_cons (de_var 3 rfl) da_nil)) ⟨_, _, rfl, rfl⟩) rfl) ?_
  rintro _ M5 σ5 H5 rfl h5
  refine cb_step (mid := fun z => z = [.d (scrD ns), .d (zsD dr), .d (poolDD dr), .d (.int ((manyOf dr) : Nat)), .d (zsD (parsOf dr)), .m (menuR.map ruleD)] ++ List.replicate 17 .no) h5 (ds_setL 5 nd (dl_lst (da_cons de_str (da_cons de_str (da_cons de_str (da_cons de_str (da_cons de_str (da_cons de_str da_nil))))))) rfl) ?_
  rintro _ M6 σ6 H6 rfl h6
  obtain ⟨M7, _, h7⟩ := h6.frz (i := 5) rfl
  refine cb_step (mid := fun z => z = [.d (scrD ns), .d (zsD dr), .d (poolDD dr), .d (.int ((manyOf dr) : Nat)), .d (zsD (parsOf dr)), .d (.list (menuR.map ruleD)), .m (growL.map num)] ++ List.replicate 16 .no) h7 (ds_setL 6 nd (ds := growL.map num) (dl_lst (da_cons (d := num 1) (de_tup (da_cons de_int (da_cons de_int da_nil))) (da_cons (d := num 1) (de_tup (da_cons de_int (da_cons de_int da_nil))) (da_cons (d := num 2) (de_tup (da_cons de_int (da_cons de_int da_nil))) (da_cons (d := num (1 / 2)) (de_is (de_tup (da_cons de_int (da_cons de_int da_nil))) num_half.symm) (da_cons (d := num (11 / 10)) (de_is (de_tup (da_cons de_int (da_cons de_int da_nil))) num_el.symm) da_nil)))))) rfl) ?_
  rintro _ M8 σ8 H8 rfl h8
  obtain ⟨M9, _, h9⟩ := h8.frz (i := 6) rfl
  refine cb_step (mid := fun z => z = stA ns dr .no .no .no .no .no .no .no .no .no .no .no .no .no .no .no .no) h9 (ds_if (t := decide (7 < (npOf dr))) (dt_is (dt_cmp cmp_gt (de_lenL (T.free _ (by decide)) (de_var 4 rfl)) de_int) (by rw [List.length_map]; exact decide_eq_decide.mpr (by show (7 : Int) < ((npOf dr : Nat) : Int) ↔ 7 < npOf dr; omega))) (fun h => dss_seq (ds_setL 6 nd (ds := (growL.take 4).map num) (dl_is (dl_slice (xs := growL.map num) (i := none) (j := some 4) (de_var 6 rfl) do_none (do_some de_int)) rfl) rfl) (dss_frz (i := 6) rfl (dss_nil ?_))) (fun h => dss_nil ?_)) ?_
  · have h' : 7 < npOf dr := of_decide_eq_true h
    have e : growsOf (npOf dr) = growL.take 4 := if_pos h'
    show _ = stA ns dr .no .no .no .no .no .no .no .no .no .no .no .no .no .no .no .no
    unfold stA
    rw [e]
    rfl
  · have h' : ¬ 7 < npOf dr := of_decide_eq_false h
    have e : growsOf (npOf dr) = growL := if_neg h'
    show _ = stA ns dr .no .no .no .no .no .no .no .no .no .no .no .no .no .no .no .no
    unfold stA
    rw [e]
    rfl
  rintro _ M10 σ10 H10 rfl h10
  let st8 : List PyData → SD → SD → SD → SD → SD → SD → SD → List SD := fun N c8 c9 c10 c11 c12 c13 c14 => stA ns dr (.m N) c8 c9 c10 c11 c12 c13 c14 .no .no .no .no .no .no .no .no
  refine cb_step (mid := fun z => z = st8 [] .no .no .no .no .no .no .no) h10 (ds_setL 7 nd (dl_lst da_nil) rfl) ?_
  rintro _ M11 σ11 H11 rfl h11
  refine cb_step (mid := fun z => ∃ c8 c9 c10 c11 c12 c13 c14, z = st8 ((mkt0 dr).nodes.map nodeD) c8 c9 c10 c11 c12 c13 c14) h11 (ds_for PassesOwn.never rfl (di_rng (m := (npOf dr)) (T.free _ (by decide)) (de_lenL (T.free _ (by decide)) (de_var 4 rfl)) (by rw [List.length_map]; rfl) (by show npOf dr ≤ _; omega)) (fun i z => ∃ c8 c9 c10 c11 c12 c13 c14, z = st8 (((List.range i).map (node0 dr)).map nodeD) c8 c9 c10 c11 c12 c13 c14) ⟨.no, .no, .no, .no, .no, .no, .no, rfl⟩ ?_ ?_) ?_
  · rintro k d ss' hd ⟨c8, c9, c10, c11, c12, c13, c14, rfl⟩
    obtain ⟨rfl, hk⟩ := rgD_get hd
    rw [Int.zero_add]
    have hk' : k < npOf dr := hk
    have ha : atOf k + 17 ≤ 220 := by unfold atOf; omega
    have pl : (partOf dr k).length = 17 := slice_len (by rw [dl]; exact ha)
    have prg := slice_rng (a := atOf k) (n := 17) drg
    have pa : ∀ i : Nat, i < 17 → atI ((partOf dr k).map PyData.int) (i : Int) = some (.int (dAt (partOf dr k) i)) := fun i hi => atI_map PyData.int (getD_at (z := 0) (by omega))
    have gl := grows_len (npOf dr)
    have hk2 : k < (parsOf dr).length := hk
    have hpar := par_at dr k hk'
    have gm := mod_nat (d := dAt (partOf dr k) 0) gl
    refine ⟨_, _, dg_name 8 nd, fun B1 e1 => ?_⟩
    refine dss_seq (ds_set 9 nd (d := .int (atOf k : Nat)) (de_is (de_add de_int (de_mod (de_intI (T.free _ (by decide)) (de_mul64 de_int (de_var 8 rfl) (.inl ⟨by decide, by decide⟩))) de_int (by decide))) (int_cast (by unfold atOf; omega))) rfl) ?_
    refine dss_seq (ds_setL 10 nd (ds := (partOf dr k).map .int) (dl_is (dl_slice (de_var 1 rfl) (do_some (de_var 9 rfl)) (do_some (de_is (de_add (de_var 9 rfl) de_int) (int_cast (n := atOf k + 17) (by omega))))) ((cutD_slice dr (by omega) (by omega)).trans (by rw [Nat.add_sub_cancel_left]; rfl))) rfl) (dss_frz (i := 10) rfl ?_)
    refine dss_seq (ds_set 11 nd (d := num (growAt dr k)) (de_ixL (i := (((dAt (partOf dr k) 0 % ((growsOf (npOf dr)).length : Int)).toNat : Nat) : Int)) (de_var 6 rfl) (de_is (de_mod (de_intI (T.free _ (by decide)) (de_ixL (de_var 10 rfl) de_int (pa 0 (by decide)))) (de_lenL (T.free _ (by decide)) (de_var 6 rfl)) (by rw [List.length_map]; show (0 : Int) < ((growsOf (npOf dr)).length : Int); omega)) (by rw [List.length_map]; exact congrArg PyData.int gm.1.symm)) (atI_map num (getD_at (z := 1) gm.2))) rfl) ?_
    let stc : SD → SD → SD → SD → List SD := fun c12 c13 c14 c21 => stA ns dr (.m (((List.range k).map (node0 dr)).map nodeD)) (.d (.int (k : Nat))) (.d (.int (atOf k : Nat))) (.d (zsD (partOf dr k))) (.d (num (growAt dr k))) c12 c13 c14 .no .no .no .no .no .no c21 .no
    refine dss_seq (ds_setC 12 rfl nd (ds := ((List.range (manyOf dr)).map (rule0 dr k)).map ruleD) (by
      refine dc_is (dc_map [("_law_n", 21)] (List.range (manyOf dr)) (fun i => .int (i : Nat)) (ruleD ∘ rule0 dr k) (fun n => stc c12 c13 c14 (.d (.int (n : Nat)))) (by rw [← rgD_map]; exact di_rng (T.free _ (by decide)) (de_var 3 rfl) rfl (by omega)) (by rw [List.length_range]; omega) rfl (fun u hu s H C cl fp => ⟨_, (by decide), dg_name 21 nd, fun B1 e1 => ?_⟩)) (by rw [List.map_map])
      have hu' : u < 4 := Nat.lt_of_lt_of_le (List.mem_range.mp hu) m2
      have hmu := mod_nat (d := dAt (partOf dr k) (1 + u)) (n := 6) (by decide)
      exact de_ixL (xs := menuR.map ruleD) (i := (((dAt (partOf dr k) (1 + u) % 6).toNat : Nat) : Int)) (de_var 5 rfl) (de_is (de_mod (de_intI (T.free _ (by decide)) (de_ixL (de_var 10 rfl) (de_is (de_add de_int (de_var 21 rfl)) (int_cast (n := 1 + u) (by omega))) (pa (1 + u) (by omega)))) de_int (by decide)) (congrArg PyData.int hmu.1.symm)) (atI_map ruleD (getD_at (z := Rule.any) hmu.2))) rfl rfl) (dss_frz (i := 12) rfl ?_)
    refine dss_seq (ds_setC 13 rfl nd (ds := ((List.range (manyOf dr)).map (price0 dr k)).map num) (by
      refine dc_is (dc_map [("_law_n", 21)] (List.range (manyOf dr)) (fun i => .int (i : Nat)) (num ∘ price0 dr k) (fun n => stc (.d (.list (((List.range (manyOf dr)).map (rule0 dr k)).map ruleD))) c13 c14 (.d (.int (n : Nat)))) (by rw [← rgD_map]; exact di_rng (T.free _ (by decide)) (de_var 3 rfl) rfl (by omega)) (by rw [List.length_range]; omega) rfl (fun u hu s H C cl fp => ⟨_, (by decide), dg_name 21 nd, fun B1 e1 => ?_⟩)) (by rw [List.map_map])
      have hu' : u < 4 := Nat.lt_of_lt_of_le (List.mem_range.mp hu) m2
      have hz := dAt_rng prg (5 + u)
      have hix : atI ((partOf dr k).map PyData.int) ((5 + u : Nat) : Int) = some (.int (dAt (partOf dr k) (5 + u))) := pa (5 + u) (by omega)
      exact de_call (fn_L_number T) (hr.mono (by decide)) (da_cons (de_sub (de_mod (de_intI (T.free _ (by decide)) (de_ixL (de_var 10 rfl) (de_is (de_add de_int (de_var 21 rfl)) (int_cast (n := 5 + u) (by omega))) hix)) de_int (by decide)) de_int) (da_cons (de_add de_int (de_mod (de_intI (T.free _ (by decide)) (de_fdiv (de_ixL (de_var 10 rfl) (de_is (de_add de_int (de_var 21 rfl)) (int_cast (n := 5 + u) (by omega))) hix) de_int ⟨by decide, by decide⟩)) de_int (by decide))) da_nil)) (R_price _ hz)) rfl rfl) (dss_frz (i := 13) rfl ?_)
    refine dss_seq (ds_setC 14 rfl nd (ds := ((List.range (manyOf dr)).map (pay0 dr k)).map num) (by
      refine dc_is (dc_map [("_law_n", 21)] (List.range (manyOf dr)) (fun i => .int (i : Nat)) (num ∘ pay0 dr k) (fun n => stc (.d (.list (((List.range (manyOf dr)).map (rule0 dr k)).map ruleD))) (.d (numL ((List.range (manyOf dr)).map (price0 dr k)))) c14 (.d (.int (n : Nat)))) (by rw [← rgD_map]; exact di_rng (T.free _ (by decide)) (de_var 3 rfl) rfl (by omega)) (by rw [List.length_range]; omega) rfl (fun u hu s H C cl fp => ⟨_, (by decide), dg_name 21 nd, fun B1 e1 => ?_⟩)) (by rw [List.map_map])
      have hu' : u < 4 := Nat.lt_of_lt_of_le (List.mem_range.mp hu) m2
      have hmu := mod_nat (d := dAt (partOf dr k) (9 + u)) (n := 4) (by decide)
      exact de_ixL (xs := payL.map num) (i := (((dAt (partOf dr k) (9 + u) % 4).toNat : Nat) : Int)) (de_is (de_dl (dl_lst (da_cons (d := num 0) (de_tup (da_cons de_int (da_cons de_int da_nil))) (da_cons (d := num 0) (de_tup (da_cons de_int (da_cons de_int da_nil))) (da_cons (d := num 1) (de_tup (da_cons de_int (da_cons de_int da_nil))) (da_cons (d := num (-1 / 2)) (de_is (de_tup (da_cons (de_neg de_int) (da_cons de_int da_nil))) num_mhalf.symm) da_nil)))))) (congrArg PyData.list pay_map)) (de_is (de_mod (de_intI (T.free _ (by decide)) (de_ixL (de_var 10 rfl) (de_is (de_add de_int (de_var 21 rfl)) (int_cast (n := 9 + u) (by omega))) (pa (9 + u) (by omega)))) de_int (by decide)) (congrArg PyData.int hmu.1.symm)) (atI_map num (getD_at (z := 0) hmu.2))) rfl rfl) (dss_frz (i := 14) rfl ?_)
    refine dss_one (ds_app 7 rfl (d := nodeD (node0 dr k)) (de_tup (da_cons (de_ixL (de_var 4 rfl) (de_var 8 rfl) hpar) (da_cons (de_var 11 rfl) (da_cons (de_var 12 rfl) (da_cons (de_var 13 rfl) (da_cons (de_var 14 rfl) (da_cons (de_dl (dl_lst da_nil)) da_nil))))))) (by simp only [List.length_map, List.length_range]; omega) ⟨.d (.int (k : Nat)), .d (.int (atOf k : Nat)), .d (zsD (partOf dr k)), .d (num (growAt dr k)), .d (.list (((List.range (manyOf dr)).map (rule0 dr k)).map ruleD)), .d (numL ((List.range (manyOf dr)).map (price0 dr k))), .d (numL ((List.range (manyOf dr)).map (pay0 dr k))), ?_⟩)
    rw [List.range_succ, List.map_append, List.map_append]
    rfl
  · rintro ss' ⟨c8, c9, c10, c11, c12, c13, c14, rfl⟩
    rw [rgD_len]
    exact ⟨c8, c9, c10, c11, c12, c13, c14, rfl⟩
  rintro _ M12 σ12 H12 ⟨c8, c9, c10, c11, c12, c13, c14, rfl⟩ h12
  refine cb_step (mid := fun z => z = stA ns dr (.m ((mkt0 dr).nodes.map nodeD)) c8 c9 c10 c11 c12 c13 c14 (.d (.str lettersS)) .no .no .no .no .no .no .no) h12 (ds_set 15 nd de_str rfl) ?_
  rintro _ M13 σ13 H13 rfl h13
  exact market_tail T hr dl drg mok h13 (fun v H' e r => mm.rt v H' x (by rw [hx]) e (by rw [hx] at *; exact r))
end
end Hk
end
section
set_option Elab.async false
set_option linter.all false
set_option maxRecDepth 100000
set_option maxHeartbeats 1000000
set_option exponentiation.threshold 100000
namespace Hk
open PySem PySem.Spec PyProof.Rows L2
open Evl (Ex)
open Hq
def bestV (m : Market) (k : Nat) (v : List Rat) : List Rat := (bestOf (extremes m k) v).getD []
def costV (m : Market) (k : Nat) (v : List Rat) : Rat := costQ m k v (bestV m k v)
def holdV (m : Market) (k : Nat) (v : List Rat) : List Rat := covOf m k v (costV m k v)
def absQ (q : Rat) : Rat := if q < 0 then -q else q
def addL (a b : List Rat) : List Rat := (List.range a.length).map fun k => getQ a k + getQ b k
def highL (a b : List Rat) : List Rat := (List.range a.length).map fun k => getQ a k + absQ (getQ b k)
def mulL (c : Rat) (a : List Rat) : List Rat := a.map fun v => c * v
def shiftL (c : Rat) (a : List Rat) : List Rat := a.map fun v => v + c
/-- a paper as is_paper wants it -/
structure PapF (m : Market) (k : Nat) (c : Rat) (ws hs : List Rat) : Prop where
  c : Sm 4400 c
  wsm : AllSm 4400 ws
  hsm : AllSm 4400 hs
  wl : ws.length = (kids m k).length
  hl : hs.length = m.many
structure LawF (m : Market) (k : Nat) (ws fi se : List Rat) (bq mq : Rat) : Prop where
  ex : ExOk m k
  el : (extremes m k).length < 100000
  g0 : (nodeAt m k).g ≠ 0
  fl : fi.length = (kids m k).length
  sl : se.length = (kids m k).length
  fs : AllSm 1000 fi
  ss : AllSm 1000 se
  bs : Sm 1000 bq
  ms : Sm 1000 mq
  v1 : CostOk m k fi (bestV m k fi)
  v2 : CostOk m k se (bestV m k se)
  v3 : CostOk m k (addL fi se) (bestV m k (addL fi se))
  v4 : CostOk m k (opposite se) (bestV m k (opposite se))
  v5 : CostOk m k (mulL bq fi) (bestV m k (mulL bq fi))
  v6 : CostOk m k (shiftL mq fi) (bestV m k (shiftL mq fi))
  v7 : CostOk m k (highL fi se) (bestV m k (highL fi se))
  v8 : CostOk m k (negL se) (bestV m k (negL se))
  a1 : PapF m k (costV m k fi) (bestV m k fi) (holdV m k fi)
  a2 : PapF m k (costV m k se) (bestV m k se) (holdV m k se)
  a3 : PapF m k (costV m k (addL fi se)) (bestV m k (addL fi se)) (holdV m k (addL fi se))
  a4 : PapF m k (0 - costV m k (opposite se)) (bestV m k (opposite se)) (holdV m k (opposite se))
  p1 : PaperF m k fi (costV m k fi) (bestV m k fi) (holdV m k fi)
  p2 : PaperF m k se (costV m k se) (bestV m k se) (holdV m k se)
  p3 : PaperF m k (addL fi se) (costV m k (addL fi se)) (bestV m k (addL fi se)) (holdV m k (addL fi se))
  p4 : PaperF m k (negL se) (-(0 - costV m k (opposite se))) (bestV m k (opposite se)) (holdV m k (opposite se))
  kd : DotOk ws se
  kl : ws.length = se.length
  ks : Sm 4400 (dotQ ws se / (nodeAt m k).g)
  k1 : dotQ ws se / (nodeAt m k).g ≤ costV m k se
  k2 : 0 - costV m k (opposite se) ≤ dotQ ws se / (nodeAt m k).g
  q1 : Sm 4400 (costV m k fi + costV m k se)
  q2 : costV m k (addL fi se) ≤ costV m k fi + costV m k se
  q3 : Sm 4400 (costV m k fi + (0 - costV m k (opposite se)))
  q4 : costV m k fi + (0 - costV m k (opposite se)) ≤ costV m k (addL fi se)
  r1 : costV m k (mulL bq fi) = bq * costV m k fi
  r2 : costV m k (shiftL mq fi) = costV m k fi + mq / (nodeAt m k).g
  r3 : costV m k fi ≤ costV m k (highL fi se)
  r4 : costV m k (negL se) = -(0 - costV m k (opposite se))
  d1 : ∀ x ∈ extremes m k, DotOk x fi ∧ x.length = fi.length ∧ Sm 4400 (dotQ x fi / (nodeAt m k).g)
  d2 : ∃ x ∈ extremes m k, dotQ x fi / (nodeAt m k).g = costV m k fi
  d3 : ∀ x ∈ extremes m k, dotQ x fi / (nodeAt m k).g ≤ costV m k fi
def finM (dr : List Int) : Market := (stateM dr (npOf dr)).1
def finL (dr : List Int) : List (List Rat) := (stateM dr (npOf dr)).2
def nodeOf (m : Market) (ds : List Int) : Nat := (innerQ m).getD (dAt ds 120 % ((innerQ m).length : Int)).toNat 0
def byOf (ds : List Int) : Rat := Rat.divInt (1 + dAt ds 130 % 9) (1 + dAt ds 131 % 5)
def moreF (ds : List Int) : Rat := Rat.divInt (dAt ds 132 % 19 - 9) (1 + dAt ds 133 % 3)
def fiOf (m : Market) (k : Nat) (ds : List Int) : List Rat := valuesQ (sliceZ ds 134 6) (kids m k).length
def seOf (m : Market) (k : Nat) (ds : List Int) : List Rat := valuesQ (sliceZ ds 140 6) (kids m k).length
def R_law (ds : List PyData) (x : PyData) : Prop := ∃ ns dr d2, ds = [scrD ns] ∧ ns.length < 1000 ∧ dr = drOf ns ∧ d2 = drawsOf ns 150 ∧ MarketOk dr ∧ WfM (namesD dr) (finM dr) ∧ (∀ k, k < (finM dr).nodes.length → (kids (finM dr) k).length ≤ 6) ∧
  (innerQ (finM dr) ≠ [] → LawF (finM dr) (nodeOf (finM dr) d2) ((finL dr).getD (nodeOf (finM dr) d2) []) (fiOf (finM dr) (nodeOf (finM dr) d2) d2) (seOf (finM dr) (nodeOf (finM dr) d2) d2) (byOf d2) (moreF d2)) ∧ x = .bool true
theorem fin_len (dr : List Int) : (finL dr).length = (finM dr).nodes.length := by
  obtain ⟨a, b, _⟩ := stateM_len dr (npOf dr)
  exact b.trans a.symm
theorem num_abs (q : Rat) : num (absQ q) = .tuple [.int (if q.num < 0 then -q.num else q.num), .int q.den] := by
  have h := (num_sign q).2.2.2.2
  unfold absQ
  by_cases hq : q < 0
  · have hn : q.num < 0 := of_decide_eq_true (h.trans (decide_eq_true hq))
    rw [if_pos hq, if_pos hn, num_neg]
  · have hn : ¬ q.num < 0 := of_decide_eq_false (h.trans (decide_eq_false hq))
    rw [if_neg hq, if_neg hn]
    rfl
theorem absQ_sm {k : Nat} {q : Rat} (h : Sm k q) : Sm k (absQ q) := by
  unfold absQ
  split
  · exact h.neg
  · exact h
theorem shaped_num1 (q : Rat) : SeqAt.shaped (num q) = true := rfl
section
variable {P : Program} {w : World} {K : PySem.W.Frag} {mg : Str → Option Value} {base : Heap}
theorem sc_law : FnScope ["_law_script", "_law_draws_here", "_law_market_here", "_law_lists", "_law_inner_here", "_law_node", "_law_growth", "_law_first", "_law_second", "_law_added", "_law_papers", "_law_low", "_law_one", "_law_two", "_law_both", "_law_under", "_law_known", "_law_by", "_law_more", "_law_higher", "_law_means", "_law_k", "_law_values_here", "_law_paper", "_law_value", "_law_weights_here", "_law_mean"] ["_law_script"] (defScope st_law) := ⟨rfl, rfl, rfl, by decide +kernel, rfl, by decide +kernel, by decide +kernel⟩
abbrev stL (ns : List Int) (d m l i : PyData) (c5 c6 c7 c8 c9 c10 c11 c12 c13 c14 c15 c16 c17 c18 c19 c20 c21 c22 c23 c24 c25 c26 : SD) : List SD := [.d (scrD ns), .d d, .d m, .d l, .d i, c5, c6, c7, c8, c9, c10, c11, c12, c13, c14, c15, c16, c17, c18, c19, c20, c21, c22, c23, c24, c25, c26]
end
end Hk
end
section
set_option Elab.async false
set_option linter.all false
set_option maxRecDepth 100000
set_option maxHeartbeats 1000000
set_option exponentiation.threshold 100000
namespace Hk
open PySem PySem.Spec PyProof.Rows L2
open Evl (Ex)
open Hq
abbrev NL : List Str := ["_law_script", "_law_draws_here", "_law_market_here", "_law_lists", "_law_inner_here", "_law_node", "_law_growth", "_law_first", "_law_second", "_law_added", "_law_papers", "_law_low", "_law_one", "_law_two", "_law_both", "_law_under", "_law_known", "_law_by", "_law_more", "_law_higher", "_law_means", "_law_k", "_law_values_here", "_law_paper", "_law_value", "_law_weights_here", "_law_mean"]
section
variable {P : Program} {w : World} {K : PySem.W.Frag} {mg : Str → Option Value} {base : Heap}
variable {f : Addr} {cdv : Value} {A : Around} {outer : List Env} {s : Shared} {H : Hp} {E : XK}
theorem law_tail2 (T : Top K mg) (hr : Room 11 (A.deeper (envOfC dd_law.qual dd_law.scope s.heap.objs.size f cdv))) {ns dr : List Int} {names : List PyData} {m : Market} {lists : List (List Rat)} {inn : PyData} {k : Nat} {fi se : List Rat} {bq mq : Rat} {B : Hp} {c9 c10 c11 : SD} (drg : ∀ d ∈ dr, 0 ≤ d ∧ d < 1000) (dl : dr.length = 150) (W : WfM names m) (hk : k < m.nodes.length) (F : LawF m k (lists.getD k []) fi se bq mq) (hk6 : (kids m k).length ≤ 6) {kq : Rat} :
    DSs (cxOf CX0 P w K mg base NL dd_law.qual dd_law.scope f cdv A outer s H E).nox B (stL ns (zsD dr) (marketD names m) (numLL lists) inn (.d (.int (k : Nat))) (.d (num (nodeAt m k).g)) (.d (numL fi)) (.d (numL se)) c9 c10 c11 (.d (num (costV m k fi))) (.d (num (costV m k se))) (.d (num (costV m k (addL fi se)))) (.d (num (0 - costV m k (opposite se)))) (.d (num kq)) (.d (num bq)) (.d (num mq)) .no .no .no .no .no .no .no .no) (dd_law.body.drop 22) ⟨fun _ => False, fun d' => d' = .bool true, fun _ => False, fun _ => False⟩ := by
  let st : SD → SD → SD → SD → SD → SD → SD → SD → SD → SD → SD → SD → SD → SD → SD → List SD := fun c12 c13 c14 c15 c16 c17 c18 c19 c20 c21 c22 c23 c24 c25 c26 => stL ns (zsD dr) (marketD names m) (numLL lists) inn (.d (.int (k : Nat))) (.d (num (nodeAt m k).g)) (.d (numL fi)) (.d (numL se)) c9 c10 c11 c12 c13 c14 c15 c16 c17 c18 c19 c20 c21 c22 c23 c24 c25 c26
  have nd := sc_law.nd
  have w1 := W.at_ hk
  have g1 : Sm 4400 (nodeAt m k).g := w1.g.mono (by decide)
  have fl6 : fi.length ≤ 6 := by rw [F.fl]; exact hk6
  have sl6 : se.length = fi.length := by rw [F.fl, F.sl]
  have fs4 : AllSm 4400 fi := F.fs.mono (by decide)
  have ss4 : AllSm 4400 se := F.ss.mono (by decide)
  have c1 := F.a1.c
  have c2 := F.a2.c
  have c3 := F.a3.c
  have c4 := F.a4.c
  have ehi : (List.range fi.length).map (fun i => num (getQ fi i + absQ (getQ se i))) = (highL fi se).map num := by unfold highL; rw [List.map_map]; rfl
  refine dss_seq (ds_setC 19 rfl nd (dc_is (dc_map [("_law_k", 21)] (List.range fi.length) (fun i => .int (i : Nat)) (fun i => num (getQ fi i + absQ (getQ se i))) (fun i => st (.d (num (costV m k fi))) (.d (num (costV m k se))) (.d (num (costV m k (addL fi se)))) (.d (num (0 - costV m k (opposite se)))) (.d (num kq)) (.d (num bq)) (.d (num mq)) .no .no (.d (.int (i : Nat))) .no .no .no .no .no)
    (by rw [← rgD_map]; exact di_rng (T.free _ (by decide)) (de_lenL (T.free _ (by decide)) (de_var 7 rfl)) (by rw [List.length_map]) (by omega)) (by rw [List.length_range]; omega) rfl (fun u hu s H C cl fp => ⟨_, (by decide), dg_name 21 nd, fun B1 e1 =>
      de_call (fn_L_plus T) (hr.mono (by decide)) (da_cons (de_at (de_var 7 rfl) (de_var 21 rfl) (List.mem_range.mp hu)) (da_cons (d := num (absQ (getQ se u))) (de_is (de_tup (da_cons (de_abs (T.free _ (by decide)) (de_n (de_at (de_var 8 rfl) (de_var 21 rfl) (by rw [sl6]; exact List.mem_range.mp hu)))) (da_cons (de_d (de_at (de_var 8 rfl) (de_var 21 rfl) (by rw [sl6]; exact List.mem_range.mp hu))) da_nil))) (num_abs _).symm) da_nil)) ⟨_, _, rfl, fs4.get (by decide) u, absQ_sm (ss4.get (by decide) u), trivial, rfl⟩⟩)) ehi) rfl rfl) (dss_frz (i := 19) rfl ?_)
  have hh3 : decide (costV m k (highL fi se) < costV m k fi) = false := decide_eq_false fun z => by have := F.r3; grind
  refine dss_seq (ds_if (t := false) (dt_is (dt_val (de_call (fn_L_less T) (hr.mono (by decide)) (da_cons (de_ixT (xs := [num (costV m k (highL fi se)), numL (bestV m k (highL fi se)), numL (holdV m k (highL fi se))]) (de_call (fn_cost_of T) (hr.mono (by decide)) (da_cons (de_var 2 rfl) (da_cons (de_var 5 rfl) (da_cons (d := numL (highL fi se)) (de_var 19 rfl) da_nil))) ⟨names, m, k, _, _, rfl, W, hk, F.v7, rfl⟩) de_int rfl) (da_cons (de_var 12 rfl) da_nil)) ⟨_, _, rfl, F.v7.cov.ws, c1, trivial, rfl⟩)) hh3) (fun z => nomatch z) (fun _ => dss_nil rfl)) ?_
  have eneg : se.map (fun v => num (-v)) = (negL se).map num := by unfold negL; rw [List.map_map]; rfl
  refine dss_seq (ds_if (t := false) (dt_is (dt_cmp (cmp_neN (q := costV m k (negL se)) (r := -(0 - costV m k (opposite se))) hr.units) (de_ixT (xs := [num (costV m k (negL se)), numL (bestV m k (negL se)), numL (holdV m k (negL se))]) (de_call (fn_cost_of T) (hr.mono (by decide)) (da_cons (de_var 2 rfl) (da_cons (de_var 5 rfl) (da_cons (d := numL (negL se)) (de_dl (dl_is (dl_dc rfl nd (dc_map [("_law_value", 24)] se num (fun v => num (-v)) (fun v => st (.d (num (costV m k fi))) (.d (num (costV m k se))) (.d (num (costV m k (addL fi se)))) (.d (num (0 - costV m k (opposite se)))) (.d (num kq)) (.d (num bq)) (.d (num mq)) (.d (numL (highL fi se))) .no .no .no .no (.d (num v)) .no .no)
    (di_list (de_var 8 rfl)) (by omega) rfl (fun u hu s H C cl fp => ⟨_, (by decide), dg_name 24 nd, fun B1 e1 => de_ngn (de_var 24 rfl) (de_var 24 rfl)⟩))) eneg)) da_nil))) ⟨names, m, k, _, _, rfl, W, hk, F.v8, rfl⟩) de_int rfl) (de_ngn (de_var 15 rfl) (de_var 15 rfl))) (by rw [F.r4]; simp)) (fun z => nomatch z) (fun _ => dss_nil rfl)) ?_
  let mns : List Rat := (extremes m k).map fun x => dotQ x fi / (nodeAt m k).g
  have emn : (extremes m k).map (fun x => num (dotQ x fi / (nodeAt m k).g)) = mns.map num := by simp only [mns, List.map_map]; rfl
  refine dss_seq (ds_setC 20 rfl nd (dc_is (dc_map [("_law_weights_here", 25)] (extremes m k) numL (fun x => num (dotQ x fi / (nodeAt m k).g)) (fun x => st (.d (num (costV m k fi))) (.d (num (costV m k se))) (.d (num (costV m k (addL fi se)))) (.d (num (0 - costV m k (opposite se)))) (.d (num kq)) (.d (num bq)) (.d (num mq)) (.d (numL (highL fi se))) .no .no .no .no .no (.d (numL x)) .no)
    (di_list (xs := (extremes m k).map numL) (de_call (fn_extreme_weights T) (hr.mono (by decide)) (da_cons (de_var 2 rfl) (da_cons (de_var 5 rfl) da_nil)) ⟨_, _, _, rfl, W, hk, F.ex, rfl⟩)) F.el rfl (fun u hu s H C cl fp => ⟨_, (by decide), dg_name 25 nd, fun B1 e1 =>
      de_call (fn_L_over T) (hr.mono (by decide)) (da_cons (de_call (fn_L_dot T) (hr.mono (by decide)) (da_cons (de_var 25 rfl) (da_cons (de_var 7 rfl) da_nil)) ⟨_, _, rfl, (F.d1 u hu).1, (F.d1 u hu).2.1, rfl⟩) (da_cons (de_var 6 rfl) da_nil)) ⟨_, _, rfl, (F.d1 u hu).1.sm, g1, F.g0, rfl⟩⟩)) emn) rfl rfl) (dss_frz (i := 20) rfl ?_)
  have hsm : ∀ q ∈ mns, Sm 4400 q ∧ q ≤ costV m k fi := fun q hq => by
    obtain ⟨x, hx, rfl⟩ := List.mem_map.mp hq
    exact ⟨(F.d1 x hx).2.2, F.d3 x hx⟩
  have hmem : costV m k fi ∈ mns := by
    obtain ⟨x, hx, e⟩ := F.d2
    exact List.mem_map.mpr ⟨x, hx, e⟩
  have ml : mns.length < 100000 := by simp only [mns, List.length_map]; exact F.el
  have hin : (mns.map num).any (fun z => PyData.eqv z (num (costV m k fi))) = true := by
    rw [List.any_eq_true]
    exact ⟨num (costV m k fi), List.mem_map.mpr ⟨_, hmem, rfl⟩, by rw [eqv_num]; exact decide_eq_true rfl⟩
  have hshp : SeqAt.shaped (.list (mns.map num)) = true := shaped_numL mns
  have hfl : mns.filter (fun q => decide (costV m k fi < q)) = [] := by
    rw [List.filter_eq_nil_iff]
    intro q hq
    have := (hsm q hq).2
    have h2 : ¬ costV m k fi < q := fun z => by grind
    simp [h2]
  have hu65 : (cxOf CX0 P w K mg base NL dd_law.qual dd_law.scope f cdv A outer s H E).nox.A.units + 65 < cLine := by
    have := hr.un
    show (A.deeper (envOfC dd_law.qual dd_law.scope s.heap.objs.size f cdv)).units + 65 < cLine
    omega
  refine dss_one (ds_ret (de_and (c := true) (c' := true) (de_is (de_cmp (cmp_inD hu65 (shaped_num1 _) hshp) (de_var 12 rfl) (de_var 20 rfl)) (congrArg PyData.bool hin)) fun _ => de_one (de_is (de_cmp cmp_eqI (de_lenL (T.free _ (by decide)) (de_dl (dl_dc rfl nd (dc [("_law_mean", 26)] mns num (fun q => decide (costV m k fi < q)) num (fun q => st (.d (num (costV m k fi))) (.d (num (costV m k se))) (.d (num (costV m k (addL fi se)))) (.d (num (0 - costV m k (opposite se)))) (.d (num kq)) (.d (num bq)) (.d (num mq)) (.d (numL (highL fi se))) (.d (numL mns)) .no .no .no .no .no (.d (num q)))
    (di_list (de_var 20 rfl)) ml rfl (fun u hu s H C cl fp => ⟨_, (by decide), dg_name 26 nd, fun B1 e1 => ⟨dt_val (de_call (fn_L_less T) (hr.mono (by decide)) (da_cons (de_var 12 rfl) (da_cons (de_var 26 rfl) da_nil)) ⟨_, _, rfl, c1, (hsm u hu).1, trivial, rfl⟩), fun _ => de_var 26 rfl⟩⟩))))) de_int) (by rw [hfl]; rfl))) rfl)
theorem law_tail1 (T : Top K mg) (hr : Room 11 (A.deeper (envOfC dd_law.qual dd_law.scope s.heap.objs.size f cdv))) {ns dr : List Int} {names : List PyData} {m : Market} {lists : List (List Rat)} {inn : PyData} {k : Nat} {fi se : List Rat} {bq mq : Rat} {B : Hp} {c9 c10 c11 : SD} (drg : ∀ d ∈ dr, 0 ≤ d ∧ d < 1000) (dl : dr.length = 150) (W : WfM names m) (hk : k < m.nodes.length) (F : LawF m k (lists.getD k []) fi se bq mq) (hk6 : (kids m k).length ≤ 6) (kll : k < lists.length) (hby : bq = Rat.divInt (1 + dAt dr 130 % 9) (1 + dAt dr 131 % 5)) (hmo : mq = Rat.divInt (dAt dr 132 % 19 - 9) (1 + dAt dr 133 % 3)) :
    DSs (cxOf CX0 P w K mg base NL dd_law.qual dd_law.scope f cdv A outer s H E).nox B (stL ns (zsD dr) (marketD names m) (numLL lists) inn (.d (.int (k : Nat))) (.d (num (nodeAt m k).g)) (.d (numL fi)) (.d (numL se)) c9 c10 c11 (.d (num (costV m k fi))) (.d (num (costV m k se))) (.d (num (costV m k (addL fi se)))) (.d (num (0 - costV m k (opposite se)))) .no .no .no .no .no .no .no .no .no .no .no) (dd_law.body.drop 15) ⟨fun _ => False, fun d' => d' = .bool true, fun _ => False, fun _ => False⟩ := by
  let st : SD → SD → SD → SD → SD → SD → SD → SD → SD → SD → SD → SD → SD → SD → SD → List SD := fun c12 c13 c14 c15 c16 c17 c18 c19 c20 c21 c22 c23 c24 c25 c26 => stL ns (zsD dr) (marketD names m) (numLL lists) inn (.d (.int (k : Nat))) (.d (num (nodeAt m k).g)) (.d (numL fi)) (.d (numL se)) c9 c10 c11 c12 c13 c14 c15 c16 c17 c18 c19 c20 c21 c22 c23 c24 c25 c26
  have nd := sc_law.nd
  have w1 := W.at_ hk
  have g1 : Sm 4400 (nodeAt m k).g := w1.g.mono (by decide)
  have fl6 : fi.length ≤ 6 := by rw [F.fl]; exact hk6
  have sl6 : se.length = fi.length := by rw [F.fl, F.sl]
  have fs4 : AllSm 4400 fi := F.fs.mono (by decide)
  have ss4 : AllSm 4400 se := F.ss.mono (by decide)
  have c1 := F.a1.c
  have c2 := F.a2.c
  have c3 := F.a3.c
  have c4 := F.a4.c
  have da : ∀ i : Nat, i < 150 → atI (dr.map PyData.int) (i : Int) = some (.int (dAt dr i)) := fun i hi => atI_map PyData.int (getD_at (z := 0) (by omega))
  let kq : Rat := dotQ (lists.getD k []) se / (nodeAt m k).g
  refine dss_seq (ds_set 16 nd (d := num kq) (de_call (fn_L_over T) (hr.mono (by decide)) (da_cons (de_call (fn_L_dot T) (hr.mono (by decide)) (da_cons (de_atL (de_var 3 rfl) (de_var 5 rfl) kll) (da_cons (de_var 8 rfl) da_nil)) ⟨_, _, rfl, F.kd, F.kl, rfl⟩) (da_cons (de_var 6 rfl) da_nil)) ⟨_, _, rfl, F.kd.sm, g1, F.g0, rfl⟩) rfl) ?_
  have hk1 : decide (costV m k se < kq) = false := decide_eq_false fun z => by have := F.k1; grind
  have hk2 : decide (kq < 0 - costV m k (opposite se)) = false := decide_eq_false fun z => by have := F.k2; grind
  refine dss_seq (ds_if (t := false) (dt_w (dw_or (c := false) (c' := false) (dt_is (dt_val (de_call (fn_L_less T) (hr.mono (by decide)) (da_cons (de_var 13 rfl) (da_cons (de_var 16 rfl) da_nil)) ⟨_, _, rfl, c2, F.ks, trivial, rfl⟩)) hk1) fun _ => dw_or1 (dt_is (dt_val (de_call (fn_L_less T) (hr.mono (by decide)) (da_cons (de_var 16 rfl) (da_cons (de_var 15 rfl) da_nil)) ⟨_, _, rfl, F.ks, c4, trivial, rfl⟩)) hk2))) (fun z => nomatch z) (fun _ => dss_nil rfl)) ?_
  have hq1 : decide (costV m k fi + costV m k se < costV m k (addL fi se)) = false := decide_eq_false fun z => by have := F.q2; grind
  have hq2 : decide (costV m k (addL fi se) < costV m k fi + (0 - costV m k (opposite se))) = false := decide_eq_false fun z => by have := F.q4; grind
  refine dss_seq (ds_if (t := false) (dt_w (dw_or (c := false) (c' := false) (dt_is (dt_val (de_call (fn_L_less T) (hr.mono (by decide)) (da_cons (de_call (fn_L_plus T) (hr.mono (by decide)) (da_cons (de_var 12 rfl) (da_cons (de_var 13 rfl) da_nil)) ⟨_, _, rfl, c1, c2, trivial, rfl⟩) (da_cons (de_var 14 rfl) da_nil)) ⟨_, _, rfl, F.q1, c3, trivial, rfl⟩)) hq1)
    fun _ => dw_or1 (dt_is (dt_val (de_call (fn_L_less T) (hr.mono (by decide)) (da_cons (de_var 14 rfl) (da_cons (de_call (fn_L_plus T) (hr.mono (by decide)) (da_cons (de_var 12 rfl) (da_cons (de_var 15 rfl) da_nil)) ⟨_, _, rfl, c1, c4, trivial, rfl⟩) da_nil)) ⟨_, _, rfl, c3, F.q3, trivial, rfl⟩)) hq2))) (fun z => nomatch z) (fun _ => dss_nil rfl)) ?_
  have d130 := dAt_rng drg 130
  have d131 := dAt_rng drg 131
  have d132 := dAt_rng drg 132
  have d133 := dAt_rng drg 133
  refine dss_seq (ds_set 17 nd (d := num bq) (de_call (fn_L_number T) (hr.mono (by decide)) (da_cons (de_add de_int (de_mod (de_intI (T.free _ (by decide)) (de_ixL (de_var 1 rfl) de_int (da 130 (by decide)))) de_int (by decide))) (da_cons (de_add de_int (de_mod (de_intI (T.free _ (by decide)) (de_ixL (de_var 1 rfl) de_int (da 131 (by decide)))) de_int (by decide))) da_nil)) ⟨_, _, rfl, by omega, lt9000 (by omega), lt9000 (by omega), by rw [hby]⟩) rfl) ?_
  have b4 : Sm 4400 bq := F.bs.mono (by decide)
  have m4 : Sm 4400 mq := F.ms.mono (by decide)
  have emul : fi.map (fun v => num (bq * v)) = (mulL bq fi).map num := by unfold mulL; rw [List.map_map]; rfl
  have eshf : fi.map (fun v => num (v + mq)) = (shiftL mq fi).map num := by unfold shiftL; rw [List.map_map]; rfl
  have eneg : se.map (fun v => num (-v)) = (negL se).map num := by unfold negL; rw [List.map_map]; rfl
  refine dss_seq (ds_if (t := false) (dt_is (dt_cmp (cmp_neN (q := costV m k (mulL bq fi)) (r := bq * costV m k fi) hr.units) (de_ixT (xs := [num (costV m k (mulL bq fi)), numL (bestV m k (mulL bq fi)), numL (holdV m k (mulL bq fi))]) (de_call (fn_cost_of T) (hr.mono (by decide)) (da_cons (de_var 2 rfl) (da_cons (de_var 5 rfl) (da_cons (d := numL (mulL bq fi)) (de_dl (dl_is (dl_dc rfl nd (dc_map [("_law_value", 24)] fi num (fun v => num (bq * v)) (fun v => st (.d (num (costV m k fi))) (.d (num (costV m k se))) (.d (num (costV m k (addL fi se)))) (.d (num (0 - costV m k (opposite se)))) (.d (num kq)) (.d (num bq)) .no .no .no .no .no .no (.d (num v)) .no .no)
    (di_list (de_var 7 rfl)) (by omega) rfl (fun u hu s H C cl fp => ⟨_, (by decide), dg_name 24 nd, fun B1 e1 => de_call (fn_L_times T) (hr.mono (by decide)) (da_cons (de_var 17 rfl) (da_cons (de_var 24 rfl) da_nil)) ⟨_, _, rfl, b4, fs4 u hu, trivial, rfl⟩⟩))) emul)) da_nil))) ⟨names, m, k, _, _, rfl, W, hk, F.v5, rfl⟩) de_int rfl) (de_call (fn_L_times T) (hr.mono (by decide)) (da_cons (de_var 17 rfl) (da_cons (de_var 12 rfl) da_nil)) ⟨_, _, rfl, b4, c1, trivial, rfl⟩)) (by rw [F.r1]; simp)) (fun z => nomatch z) (fun _ => dss_nil rfl)) ?_
  refine dss_seq (ds_set 18 nd (d := num mq) (de_call (fn_L_number T) (hr.mono (by decide)) (da_cons (de_sub (de_mod (de_intI (T.free _ (by decide)) (de_ixL (de_var 1 rfl) de_int (da 132 (by decide)))) de_int (by decide)) de_int) (da_cons (de_add de_int (de_mod (de_intI (T.free _ (by decide)) (de_ixL (de_var 1 rfl) de_int (da 133 (by decide)))) de_int (by decide))) da_nil)) ⟨_, _, rfl, by omega, lt9000 (by omega), lt9000 (by omega), by rw [hmo]⟩) rfl) ?_
  have mg4 : Sm 4400 (mq / (nodeAt m k).g) := (F.ms.div w1.g F.g0).mono (by decide)
  refine dss_seq (ds_if (t := false) (dt_is (dt_cmp (cmp_neN (q := costV m k (shiftL mq fi)) (r := costV m k fi + mq / (nodeAt m k).g) hr.units) (de_ixT (xs := [num (costV m k (shiftL mq fi)), numL (bestV m k (shiftL mq fi)), numL (holdV m k (shiftL mq fi))]) (de_call (fn_cost_of T) (hr.mono (by decide)) (da_cons (de_var 2 rfl) (da_cons (de_var 5 rfl) (da_cons (d := numL (shiftL mq fi)) (de_dl (dl_is (dl_dc rfl nd (dc_map [("_law_value", 24)] fi num (fun v => num (v + mq)) (fun v => st (.d (num (costV m k fi))) (.d (num (costV m k se))) (.d (num (costV m k (addL fi se)))) (.d (num (0 - costV m k (opposite se)))) (.d (num kq)) (.d (num bq)) (.d (num mq)) .no .no .no .no .no (.d (num v)) .no .no)
    (di_list (de_var 7 rfl)) (by omega) rfl (fun u hu s H C cl fp => ⟨_, (by decide), dg_name 24 nd, fun B1 e1 => de_call (fn_L_plus T) (hr.mono (by decide)) (da_cons (de_var 24 rfl) (da_cons (de_var 18 rfl) da_nil)) ⟨_, _, rfl, fs4 u hu, m4, trivial, rfl⟩⟩))) eshf)) da_nil))) ⟨names, m, k, _, _, rfl, W, hk, F.v6, rfl⟩) de_int rfl) (de_call (fn_L_plus T) (hr.mono (by decide)) (da_cons (de_var 12 rfl) (da_cons (de_call (fn_L_over T) (hr.mono (by decide)) (da_cons (de_var 18 rfl) (da_cons (de_var 6 rfl) da_nil)) ⟨_, _, rfl, m4, g1, F.g0, rfl⟩) da_nil)) ⟨_, _, rfl, c1, mg4, trivial, rfl⟩)) (by rw [F.r2]; simp)) (fun z => nomatch z) (fun _ => dss_nil rfl)) ?_
  exact law_tail2 T hr drg dl W hk F hk6
end
end Hk
end
section
set_option Elab.async false
set_option linter.all false
set_option maxRecDepth 100000
set_option maxHeartbeats 1000000
set_option exponentiation.threshold 100000
namespace Hk
open PySem PySem.Spec PyProof.Rows L2
open Evl (Ex)
open Hq
section
variable {P : Program} {w : World} {K : PySem.W.Frag} {mg : Str → Option Value} {base : Heap}
theorem law_body (T : Top K mg) (f : Addr) (cdv : Value) (A : Around) (outer : List Env) (s : Shared) (H : Hp) (E : XK) (hr : Room 11 (A.deeper (envOfC dd_law.qual dd_law.scope s.heap.objs.size f cdv))) (ds : List PyData) (x : PyData) (hR : R_law ds x) :
    DSs (cxOf CX0 P w K mg base NL dd_law.qual dd_law.scope f cdv A outer s H E).nox H (startS ds 26) dd_law.body ⟨fun _ => False, fun d' => d' = x, fun _ => False, fun _ => False⟩ := by
  obtain ⟨ns, dr1, dr, rfl, hns, e1, e2, mok, W, k6, hF, rfl⟩ := hR
  have nd := sc_law.nd
  have dl : dr.length = 150 := by rw [e2]; exact drawsOf_len ns 150
  have drg : ∀ d ∈ dr, 0 ≤ d ∧ d < 1000 := by rw [e2]; exact drawsOf_rng ns 150
  refine dss_seq (ds_set 1 nd (d := zsD dr) (de_call (fn_L_draws T) (hr.mono (by decide)) (da_cons (de_var 0 rfl) (da_cons de_int da_nil)) ⟨ns, 150, rfl, by decide, hns, by rw [e2]⟩) rfl) ?_
  refine dss_seq (ds_asg (d := .tuple [marketD (namesD dr1) (finM dr1), numLL (finL dr1)]) (de_call (fn_L_market T) (hr.mono (by decide)) (da_cons (de_var 0 rfl) da_nil) ⟨ns, rfl, hns, by rw [← e1]; exact mok, by rw [← e1]; rfl⟩) (dg_tup rfl (dgs_cons (dg_name 2 nd) (dgs_cons (dg_name 3 nd) dgs_nil))) rfl) ?_
  have fll := fin_len dr1
  clear mok e1
  generalize namesD dr1 = names at W ⊢
  generalize finL dr1 = lists at hF fll ⊢
  generalize finM dr1 = m at W k6 hF fll ⊢
  clear e2
  refine dss_seq (ds_set 4 nd (d := intsD (innerQ m)) (de_call (fn_L_inner T) (hr.mono (by decide)) (da_cons (de_var 2 rfl) da_nil) ⟨_, _, rfl, W, rfl⟩) rfl) ?_
  refine dss_cons (mid := fun z => z = stL ns (zsD dr) (marketD names m) (numLL lists) (intsD (innerQ m)) .no .no .no .no .no .no .no .no .no .no .no .no .no .no .no .no .no .no .no .no .no .no ∧ innerQ m ≠ []) (ds_if (t := (innerQ m).isEmpty) (dt_is (dt_cmp cmp_eqI (de_lenL (T.free _ (by decide)) (de_var 4 rfl)) de_int) (by rw [List.length_map]; cases innerQ m <;> simp; omega)) (fun h => dss_end (ds_ret de_bl rfl)) (fun h => dss_nil ⟨rfl, fun q => by rw [q] at h; cases h⟩)) ?_
  rintro ss' ⟨rfl, hin⟩
  have F := hF hin
  have hil : 0 < (innerQ m).length := List.length_pos_iff.mpr hin
  have im := mod_nat (d := dAt dr 120) hil
  have hkm : nodeOf m dr ∈ innerQ m := getD_mem im.2
  have hk : nodeOf m dr < m.nodes.length := List.mem_range.mp (List.mem_filter.mp hkm).1
  have hk6 := k6 _ hk
  have da : ∀ i : Nat, i < 150 → atI (dr.map PyData.int) (i : Int) = some (.int (dAt dr i)) := fun i hi => atI_map PyData.int (getD_at (z := 0) (by omega))
  have fil : ∀ a : Nat, a + 6 ≤ 150 → (sliceZ dr a 6).length = 6 := fun a ha => slice_len (by omega)
  have hfi : fiOf m (nodeOf m dr) dr = valuesQ (sliceZ dr 134 6) (kids m (nodeOf m dr)).length := rfl
  have hse : seOf m (nodeOf m dr) dr = valuesQ (sliceZ dr 140 6) (kids m (nodeOf m dr)).length := rfl
  have hby : byOf dr = Rat.divInt (1 + dAt dr 130 % 9) (1 + dAt dr 131 % 5) := rfl
  have hmo : moreF dr = Rat.divInt (dAt dr 132 % 19 - 9) (1 + dAt dr 133 % 3) := rfl
  have hnode : atI ((innerQ m).map fun i : Nat => PyData.int (i : Nat)) (((dAt dr 120 % ((innerQ m).length : Int)).toNat : Nat) : Int) = some (.int (nodeOf m dr : Nat)) := atI_map (fun i : Nat => PyData.int (i : Nat)) (getD_at (z := 0) im.2)
  generalize fiOf m (nodeOf m dr) dr = fi at F hfi
  generalize seOf m (nodeOf m dr) dr = se at F hse
  generalize byOf dr = bq at F hby
  generalize moreF dr = mq at F hmo
  generalize nodeOf m dr = k at F hk hk6 hfi hse hnode
  refine dss_seq (ds_set 5 nd (d := .int (k : Nat)) (de_ixL (de_var 4 rfl) (de_is (de_mod (de_intI (T.free _ (by decide)) (de_ixL (de_var 1 rfl) de_int (da 120 (by decide)))) (de_lenL (T.free _ (by decide)) (de_var 4 rfl)) (by rw [List.length_map]; omega)) (by rw [List.length_map]; exact congrArg PyData.int im.1.symm)) hnode) rfl) ?_
  have w1 := W.at_ hk
  refine dss_seq (ds_set 6 nd (d := num (nodeAt m k).g) (de_growth (de_node (de_nodes (de_var 2 rfl)) (de_var 5 rfl) hk)) rfl) ?_
  refine dss_seq (ds_set 7 nd (d := numL fi) (de_call (fn_L_values T) (hr.mono (by decide)) (da_cons (de_var 2 rfl) (da_cons (de_var 5 rfl) (da_cons (d := zsD (sliceZ dr 134 6)) (de_dl (dl_is (dl_slice (i := some (134 : Nat)) (j := some (140 : Nat)) (de_var 1 rfl) (do_some de_int) (do_some de_int)) (cutD_slice dr (by decide) (by omega)))) da_nil))) ⟨_, _, _, _, rfl, W, by rw [fil 134 (by decide)]; exact hk6, by rw [hfi]⟩) rfl) ?_
  refine dss_seq (ds_set 8 nd (d := numL se) (de_call (fn_L_values T) (hr.mono (by decide)) (da_cons (de_var 2 rfl) (da_cons (de_var 5 rfl) (da_cons (d := zsD (sliceZ dr 140 6)) (de_dl (dl_is (dl_slice (i := some (140 : Nat)) (j := some (146 : Nat)) (de_var 1 rfl) (do_some de_int) (do_some de_int)) (cutD_slice dr (by decide) (by omega)))) da_nil))) ⟨_, _, _, _, rfl, W, by rw [fil 140 (by decide)]; exact hk6, by rw [hse]⟩) rfl) ?_
  clear hfi hse hnode fil
  have fl6 : fi.length ≤ 6 := by rw [F.fl]; exact hk6
  have sl6 : se.length = fi.length := by rw [F.fl, F.sl]
  have eav : (List.range fi.length).map (fun i => num (getQ fi i + getQ se i)) = (addL fi se).map num := by unfold addL; rw [List.map_map]; rfl
  have fs4 : AllSm 4400 fi := F.fs.mono (by decide)
  have ss4 : AllSm 4400 se := F.ss.mono (by decide)
  let nos : List SD := []
  refine dss_seq (ds_setL 9 nd (dl_is (dl_dc rfl nd (dc_map [("_law_k", 21)] (List.range fi.length) (fun i => .int (i : Nat)) (fun i => num (getQ fi i + getQ se i)) (fun i => stL ns (zsD dr) (marketD names m) (numLL lists) (intsD (innerQ m)) (.d (.int (k : Nat))) (.d (num (nodeAt m k).g)) (.d (numL fi)) (.d (numL se)) .no .no .no .no .no .no .no .no .no .no .no .no (.d (.int (i : Nat))) .no .no .no .no .no)
    (by rw [← rgD_map]; exact di_rng (T.free _ (by decide)) (de_lenL (T.free _ (by decide)) (de_var 7 rfl)) (by rw [List.length_map]) (by omega)) (by rw [List.length_range]; omega) rfl (fun u hu s H C cl fp => ⟨_, (by decide), dg_name 21 nd, fun B1 e1 =>
      de_call (fn_L_plus T) (hr.mono (by decide)) (da_cons (de_at (de_var 7 rfl) (de_var 21 rfl) (List.mem_range.mp hu)) (da_cons (de_at (de_var 8 rfl) (de_var 21 rfl) (by rw [sl6]; exact List.mem_range.mp hu)) da_nil)) ⟨_, _, rfl, fs4.get (by decide) u, ss4.get (by decide) u, trivial, rfl⟩⟩))) eav) rfl) (dss_frz (i := 9) rfl ?_)
  let enc : Rat × List Rat × List Rat → PyData := fun p => paperD p.1 p.2.1 p.2.2
  let pv : List Rat → Rat × List Rat × List Rat := fun v => (costV m k v, bestV m k v, holdV m k v)
  let low : Rat × List Rat × List Rat := (0 - costV m k (opposite se), bestV m k (opposite se), holdV m k (opposite se))
  have hall : ∀ v ∈ [fi, se, addL fi se], CostOk m k v (bestV m k v) := fun v hv => by
    rcases List.mem_cons.mp hv with q | hv
    · rw [q]; exact F.v1
    rcases List.mem_cons.mp hv with q | hv
    · rw [q]; exact F.v2
    · have q : v = addL fi se := by simpa using hv
      rw [q]; exact F.v3
  refine dss_seq (ds_setL 10 nd (ds := [pv fi, pv se, pv (addL fi se)].map enc) (dl_dc rfl nd (dc_map [("_law_values_here", 22)] [fi, se, addL fi se] numL (fun v => enc (pv v)) (fun v => stL ns (zsD dr) (marketD names m) (numLL lists) (intsD (innerQ m)) (.d (.int (k : Nat))) (.d (num (nodeAt m k).g)) (.d (numL fi)) (.d (numL se)) (.d (numL (addL fi se))) .no .no .no .no .no .no .no .no .no .no .no .no (.d (numL v)) .no .no .no .no)
    (di_list (de_dl (dl_lst (da_cons (de_var 7 rfl) (da_cons (de_var 8 rfl) (da_cons (d := numL (addL fi se)) (de_var 9 rfl) da_nil)))))) (show 3 < 100000 by decide) rfl (fun u hu s H C cl fp => ⟨_, (by decide), dg_name 22 nd, fun B1 e1 =>
      de_call (fn_cost_of T) (hr.mono (by decide)) (da_cons (de_var 2 rfl) (da_cons (de_var 5 rfl) (da_cons (de_var 22 rfl) da_nil))) ⟨_, _, _, _, _, rfl, W, hk, hall u hu, rfl⟩⟩))) rfl) (dss_frz (i := 10) rfl ?_)
  refine dss_seq (ds_set 11 nd (d := enc low) (de_call (fn_loan_on T) hr (da_cons (de_var 2 rfl) (da_cons (de_var 5 rfl) (da_cons (de_var 8 rfl) da_nil))) ⟨names, m, k, se, bestV m k (opposite se), rfl, W, hk, ss4, by omega, F.v4, rfl⟩) rfl) ?_
  let st : SD → SD → SD → SD → SD → SD → SD → SD → SD → SD → SD → SD → SD → SD → SD → List SD := fun c12 c13 c14 c15 c16 c17 c18 c19 c20 c21 c22 c23 c24 c25 c26 => stL ns (zsD dr) (marketD names m) (numLL lists) (intsD (innerQ m)) (.d (.int (k : Nat))) (.d (num (nodeAt m k).g)) (.d (numL fi)) (.d (numL se)) (.d (numL (addL fi se))) (.d (.list ([pv fi, pv se, pv (addL fi se)].map enc))) (.d (enc low)) c12 c13 c14 c15 c16 c17 c18 c19 c20 c21 c22 c23 c24 c25 c26
  have hpap : ∀ p ∈ [pv fi, pv se, pv (addL fi se), low], PapF m k p.1 p.2.1 p.2.2 := fun p hp => by
    rcases List.mem_cons.mp hp with q | hp
    · rw [q]; exact F.a1
    rcases List.mem_cons.mp hp with q | hp
    · rw [q]; exact F.a2
    rcases List.mem_cons.mp hp with q | hp
    · rw [q]; exact F.a3
    · have q : p = low := by simpa using hp
      rw [q]; exact F.a4
  have htrue : ∀ l : List (Rat × List Rat × List Rat), (l.map fun _ => true).all id = true := fun l => by simp
  refine dss_seq (ds_if (t := false) (dt_not (c := true) (dt_val (de_is (de_all (bs := [pv fi, pv se, pv (addL fi se), low].map fun _ => true) rfl (T.free _ (by decide)) (de_dl (dl_dc rfl nd (dc_map [("_law_paper", 23)] [pv fi, pv se, pv (addL fi se), low] enc (fun _ => .bool true) (fun p => st .no .no .no .no .no .no .no .no .no .no .no (.d (enc p)) .no .no .no)
    (di_list (de_dl (dl_cat (xs := [pv fi, pv se, pv (addL fi se)].map enc) (ys := [enc low]) (de_var 10 rfl) (de_dl (dl_lst (da_cons (de_var 11 rfl) da_nil))) (Evl.sz_of (show 4 ≤ 100000 by decide))))) (show 4 < 100000 by decide) rfl (fun u hu s H C cl fp => ⟨_, (by decide), dg_name 23 nd, fun B1 e1 => ?_⟩))))) rfl))) (fun z => nomatch z) (fun _ => dss_nil rfl)) ?_
  · have hp := hpap u hu
    exact de_call (fn_L_is_paper T) (hr.mono (by decide)) (da_cons (de_var 2 rfl) (da_cons (de_var 5 rfl) (da_cons (de_var 23 rfl) da_nil))) ⟨names, m, k, u.1, u.2.1, u.2.2, rfl, W, hp.c, hp.wsm, hp.hsm, hp.wl, hp.hl, rfl⟩
  refine dss_seq (ds_if (t := false) (dt_not (c := true) (dt_val (de_is (de_all (bs := (List.range 3).map fun _ => true) rfl (T.free _ (by decide)) (de_dl (dl_dc rfl nd (dc_map [("_law_k", 21)] (List.range 3) (fun i => .int (i : Nat)) (fun _ => .bool true) (fun i => st .no .no .no .no .no .no .no .no .no (.d (.int (i : Nat))) .no .no .no .no .no)
    (by rw [← rgD_map]; exact di_rng (T.free _ (by decide)) de_int rfl (by decide)) (by decide) rfl (fun u hu s H C cl fp => ⟨_, (by decide), dg_name 21 nd, fun B1 e1 => ?_⟩))))) rfl))) (fun z => nomatch z) (fun _ => dss_nil rfl)) ?_
  · have hu3 := List.mem_range.mp hu
    let vs : List (List Rat) := [fi, se, addL fi se]
    have hv : atI (vs.map numL) (u : Int) = some (numL (vs.getD u [])) := atI_map numL (getD_at hu3)
    have hp : atI ((vs.map pv).map enc) (u : Int) = some (enc (pv (vs.getD u []))) := by
      rw [List.map_map]
      exact atI_map (enc ∘ pv) (getD_at hu3)
    have hpf : ∀ i, i < 3 → PaperF m k (vs.getD i []) (costV m k (vs.getD i [])) (bestV m k (vs.getD i [])) (holdV m k (vs.getD i [])) := fun i hi => by
      match i, hi with
      | 0, _ => exact F.p1
      | 1, _ => exact F.p2
      | 2, _ => exact F.p3
    exact de_call (fn_L_cost_right T) (hr.mono (by decide)) (da_cons (de_var 2 rfl) (da_cons (de_var 5 rfl) (da_cons (de_ixL (xs := vs.map numL) (de_dl (dl_lst (da_cons (de_var 7 rfl) (da_cons (de_var 8 rfl) (da_cons (de_var 9 rfl) da_nil))))) (de_var 21 rfl) hv) (da_cons (de_ixL (xs := (vs.map pv).map enc) (de_var 10 rfl) (de_var 21 rfl) hp) da_nil)))) ⟨names, m, k, vs.getD u [], _, _, _, rfl, W, hk, hpf u hu3, rfl⟩
  refine dss_seq (ds_if (t := false) (dt_not (c := true) (dt_val (de_call (fn_L_loan_right T) (hr.mono (by decide)) (da_cons (de_var 2 rfl) (da_cons (de_var 5 rfl) (da_cons (de_var 8 rfl) (da_cons (de_var 11 rfl) da_nil)))) ⟨names, m, k, se, low.1, low.2.1, low.2.2, rfl, W, hk, by omega, F.p4, rfl⟩))) (fun z => nomatch z) (fun _ => dss_nil rfl)) ?_
  -- the numbers
  refine dss_seq (ds_asg (d := .tuple [num (costV m k fi), num (costV m k se), num (costV m k (addL fi se)), num (0 - costV m k (opposite se))]) (de_tup (da_cons (de_ixT (xs := [num (costV m k fi), numL (bestV m k fi), numL (holdV m k fi)]) (de_ixL (xs := [pv fi, pv se, pv (addL fi se)].map enc) (de_var 10 rfl) de_int rfl) de_int rfl) (da_cons (de_ixT (xs := [num (costV m k se), numL (bestV m k se), numL (holdV m k se)]) (de_ixL (xs := [pv fi, pv se, pv (addL fi se)].map enc) (de_var 10 rfl) de_int rfl) de_int rfl) (da_cons (de_ixT (xs := [num (costV m k (addL fi se)), numL (bestV m k (addL fi se)), numL (holdV m k (addL fi se))]) (de_ixL (xs := [pv fi, pv se, pv (addL fi se)].map enc) (de_var 10 rfl) de_int rfl) de_int rfl)
    (da_cons (de_ixT (xs := [num (0 - costV m k (opposite se)), numL (bestV m k (opposite se)), numL (holdV m k (opposite se))]) (de_var 11 rfl) de_int rfl) da_nil))))) (dg_tup rfl (dgs_cons (dg_name 12 nd) (dgs_cons (dg_name 13 nd) (dgs_cons (dg_name 14 nd) (dgs_cons (dg_name 15 nd) dgs_nil))))) rfl) ?_
  have c1 := F.a1.c
  have c2 := F.a2.c
  have c3 := F.a3.c
  have c4 := F.a4.c
  exact law_tail1 T hr drg dl W hk F hk6 (by omega) hby hmo
theorem law_ok {f : Addr} {fd : FuncData} (T : Top K mg) (F : FunD K dd_law.name dd_law.qual dd_law.params dd_law.body dd_law.scope [] [] f fd) : FnOk P w K mg base CX0 12 f fd ["_law_script"] (spD K 1 R_law) := by
  refine F.ok sc_law (fun vs H Q E h => ?_) (fun cdv A outer s H vs Q E hr h => ?_)
  · obtain ⟨M, ds, d, r, hl, _⟩ := h
    rw [r.len, hl]
    rfl
  · obtain ⟨M, ds, d, r, hl, hM, hR, q⟩ := h
    have hh := held_start (N := NL) r hM
    rw [hl] at hh
    obtain ⟨t, ht, hq⟩ := law_body T f cdv A outer s H E hr ds d hR M M _ H hh { nx := fun _ H' => Q .non H', rt := Q } ⟨fun _ _ _ _ z => z.elim, fun v H' d' e ex r => by subst e; exact q v H' ex r, fun _ _ _ _ z => z.elim, fun _ _ _ _ z => z.elim⟩
    exact ⟨t, ht.nox, hq⟩
end
end Hk
end
section
set_option linter.all false
set_option maxHeartbeats 1000000
/-! sums, homogeneous systems -/
namespace Hq
def S : Nat → (Nat → Rat) → Rat
  | 0, _ => 0
  | n + 1, f => S n f + f n
theorem S_congr {f g : Nat → Rat} : ∀ {n : Nat}, (∀ i, i < n → f i = g i) → S n f = S n g
  | 0, _ => rfl
  | n + 1, h => by
    show S n f + f n = S n g + g n
    rw [S_congr fun i hi => h i (by omega), h n (by omega)]
theorem S_add (f g : Nat → Rat) : ∀ n, S n (fun i => f i + g i) = S n f + S n g
  | 0 => by
    show (0 : Rat) = 0 + 0
    grind
  | n + 1 => by
    show S n (fun i => f i + g i) + (f n + g n) = (S n f + f n) + (S n g + g n)
    rw [S_add f g n]; grind
theorem S_mul (c : Rat) (f : Nat → Rat) : ∀ n, S n (fun i => c * f i) = c * S n f
  | 0 => by simp [S]
  | n + 1 => by
    show S n (fun i => c * f i) + c * f n = c * (S n f + f n)
    rw [S_mul c f n]; grind
theorem S_zero : ∀ n, S n (fun _ => 0) = 0
  | 0 => rfl
  | n + 1 => by
    show S n (fun _ => 0) + 0 = 0
    rw [S_zero n]; grind
theorem S_zero_of {f : Nat → Rat} {n : Nat} (h : ∀ i, i < n → f i = 0) : S n f = 0 := by rw [S_congr h, S_zero]
theorem S_le {f g : Nat → Rat} : ∀ {n : Nat}, (∀ i, i < n → f i ≤ g i) → S n f ≤ S n g
  | 0, _ => by simp [S]
  | n + 1, h => by
    have h1 := S_le (n := n) fun i hi => h i (by omega)
    have h2 := h n (by omega)
    show S n f + f n ≤ S n g + g n
    grind
theorem S_nonneg {f : Nat → Rat} {n : Nat} (h : ∀ i, i < n → 0 ≤ f i) : 0 ≤ S n f := by
  have := S_le (f := fun _ => 0) (g := f) h
  rwa [S_zero] at this
theorem S_more {f : Nat → Rat} {n m : Nat} (h : n ≤ m) (hz : ∀ i, n ≤ i → i < m → f i = 0) : S m f = S n f := by
  induction m with
  | zero => have : n = 0 := by omega
            subst this; rfl
  | succ m ih =>
    rcases Nat.lt_or_ge n (m + 1) with q | q
    · show S m f + f m = S n f
      rw [ih (by omega) fun i h1 h2 => hz i h1 (by omega), hz m (by omega) (by omega)]; grind
    · have : n = m + 1 := by omega
      rw [this]
/-- one place told apart -/
theorem S_split {f : Nat → Rat} {n p : Nat} (hp : p < n) : S n f = S n (fun i => if i = p then 0 else f i) + f p := by
  induction n with
  | zero => omega
  | succ n ih =>
    show S n f + f n = S n (fun i => if i = p then 0 else f i) + (if n = p then 0 else f n) + f p
    rcases Nat.lt_or_ge p n with q | q
    · rw [ih q, if_neg (by omega)]; grind
    · have e : n = p := by omega
      rw [if_pos e]
      have : S n (fun i => if i = p then 0 else f i) = S n f := S_congr fun i hi => by rw [if_neg (by omega)]
      rw [this, e]; grind
theorem S_only {f : Nat → Rat} {n p : Nat} (hp : p < n) (h : ∀ i, i < n → i ≠ p → f i = 0) : S n f = f p := by
  rw [S_split hp, S_zero_of, Rat.zero_add]
  intro i hi
  by_cases e : i = p
  · simp [e]
  · simp [e, h i hi e]
theorem S_swap (f : Nat → Nat → Rat) (m : Nat) : ∀ n, S n (fun i => S m (fun j => f i j)) = S m (fun j => S n (fun i => f i j))
  | 0 => by
    show 0 = S m (fun j => 0)
    rw [S_zero]
  | n + 1 => by
    show S n (fun i => S m (fun j => f i j)) + S m (fun j => f n j) = S m (fun j => S n (fun i => f i j) + f n j)
    rw [S_swap f m n, ← S_add]
theorem S_pos_of {f : Nat → Rat} {n p : Nat} (h : ∀ i, i < n → 0 ≤ f i) (hp : p < n) (hf : 0 < f p) : 0 < S n f := by
  rw [S_split hp]
  have : 0 ≤ S n (fun i => if i = p then 0 else f i) := S_nonneg fun i hi => by
    by_cases e : i = p
    · simp [e]
    · simp [e]; exact h i hi
  grind
/-! lists -/
theorem getQ_lt {xs : List Rat} {i : Nat} (h : i < xs.length) : getQ xs i = xs[i] := by
  unfold getQ
  rw [List.getD_eq_getElem?_getD, List.getElem?_eq_getElem h]; rfl
theorem getQ_ge {xs : List Rat} {i : Nat} (h : xs.length ≤ i) : getQ xs i = 0 := by
  unfold getQ
  rw [List.getD_eq_getElem?_getD, List.getElem?_eq_none h]; rfl
theorem getQ_map (f : Rat → Rat) (xs : List Rat) (i : Nat) (h : i < xs.length) : getQ (xs.map f) i = f (getQ xs i) := by
  rw [getQ_lt (by simpa using h), getQ_lt h, List.getElem_map]
theorem getQ_map0 (f : Rat → Rat) (h0 : f 0 = 0) (xs : List Rat) (i : Nat) : getQ (xs.map f) i = f (getQ xs i) := by
  by_cases h : i < xs.length
  · exact getQ_map f xs i h
  · rw [getQ_ge (by simpa using h), getQ_ge (by omega), h0]
theorem getQ_set {xs : List Rat} {i j : Nat} {v : Rat} : getQ (xs.set i v) j = if i = j ∧ i < xs.length then v else getQ xs j := by
  by_cases h : i = j
  · subst h
    by_cases hi : i < xs.length
    · rw [if_pos ⟨rfl, hi⟩, getQ_lt (by simpa using hi), List.getElem_set_self]
    · rw [if_neg (fun q => hi q.2), getQ_ge (by simp; omega), getQ_ge (by omega)]
  · rw [if_neg (fun q => h q.1)]
    unfold getQ
    rw [List.getD_eq_getElem?_getD, List.getD_eq_getElem?_getD, List.getElem?_set_ne h]
theorem getQ_zip (f : Rat → Rat → Rat) (xs ys : List Rat) (i : Nat) (h1 : i < xs.length) (h2 : i < ys.length) : getQ (List.zipWith f xs ys) i = f (getQ xs i) (getQ ys i) := by
  rw [getQ_lt (by simp; omega), getQ_lt h1, getQ_lt h2, List.getElem_zipWith]
theorem getQ_range (f : Nat → Rat) (n i : Nat) (h : i < n) : getQ ((List.range n).map f) i = f i := by
  rw [getQ_lt (by simpa using h)]; simp
theorem getQ_rep (n i : Nat) : getQ (List.replicate n 0) i = 0 := by
  by_cases h : i < n
  · rw [getQ_lt (by simpa using h)]; simp
  · rw [getQ_ge (by simp; omega)]
theorem sumQ_app (xs : List Rat) (x : Rat) : sumQ (xs ++ [x]) = sumQ xs + x := by simp [sumQ]
theorem getQ_app_l {xs ys : List Rat} {i : Nat} (h : i < xs.length) : getQ (xs ++ ys) i = getQ xs i := by
  rw [getQ_lt (by simp; omega), getQ_lt h, List.getElem_append_left h]
theorem sumQ_S0 : ∀ (n : Nat) (xs : List Rat), xs.length = n → sumQ xs = S n (getQ xs)
  | 0, xs, h => by
    have := List.length_eq_zero_iff.mp h
    subst this; rfl
  | n + 1, xs, h => by
    have hne : xs ≠ [] := fun q => by rw [q] at h; cases h
    obtain ⟨ys, y, rfl⟩ : ∃ ys y, xs = ys ++ [y] := ⟨xs.dropLast, xs.getLast hne, (List.dropLast_concat_getLast hne).symm⟩
    have hl : ys.length = n := by simpa using h
    rw [sumQ_app, sumQ_S0 n ys hl]
    show _ = S n (getQ (ys ++ [y])) + getQ (ys ++ [y]) n
    rw [S_congr (f := getQ ys) (g := getQ (ys ++ [y])) fun i hi => (getQ_app_l (by omega)).symm]
    congr 1
    rw [getQ_lt (by simp; omega)]
    rw [List.getElem_append_right (by omega)]
    simp [hl]
theorem sumQ_S {xs : List Rat} {n : Nat} (h : xs.length ≤ n) : sumQ xs = S n (getQ xs) := by
  rw [sumQ_S0 _ xs rfl]
  exact (S_more h fun i h1 _ => getQ_ge h1).symm
theorem dot_S {a b : List Rat} {n : Nat} (h : a.length ≤ n ∨ b.length ≤ n) : dotQ a b = S n fun i => getQ a i * getQ b i := by
  unfold dotQ
  rw [sumQ_S0 _ _ rfl, List.length_zipWith]
  have hm : min a.length b.length ≤ n := by omega
  rw [S_more hm fun i h1 _ => by
    rcases Nat.lt_or_ge i a.length with q | q
    · rw [getQ_ge (show b.length ≤ i by omega)]; grind
    · rw [getQ_ge q]; grind]
  exact S_congr fun i hi => getQ_zip _ a b i (by omega) (by omega)
theorem ext_getQ {a b : List Rat} (h : a.length = b.length) (hq : ∀ i, i < a.length → getQ a i = getQ b i) : a = b := by
  refine List.ext_getElem h fun i h1 h2 => ?_
  have := hq i h1
  rwa [getQ_lt h1, getQ_lt h2] at this
/-! a homogeneous system with fewer equations than unknowns -/
theorem homSol : ∀ (fs : List (Nat → Rat)) (n : Nat) (U : Nat → Bool), (∀ i, U i = true → i < n) → fs.length < ((List.range n).filter U).length →
    ∃ w : Nat → Rat, (∀ i, U i = false → w i = 0) ∧ (∃ i, i < n ∧ w i ≠ 0) ∧ ∀ f ∈ fs, S n (fun i => f i * w i) = 0
  | [], n, U, hU, hl => by
    obtain ⟨i, hi⟩ := List.exists_mem_of_length_pos hl
    obtain ⟨h1, h2⟩ := List.mem_filter.mp hi
    refine ⟨fun j => if j = i then 1 else 0, fun j hj => ?_, ⟨i, List.mem_range.mp h1, by simp⟩, fun f hf => nomatch hf⟩
    by_cases e : j = i
    · rw [e, h2] at hj; cases hj
    · simp [e]
  | f :: gs, n, U, hU, hl => by
    by_cases hz : ∀ i, U i = true → f i = 0
    · obtain ⟨w, h1, h2, h3⟩ := homSol gs n U hU (by rw [List.length_cons] at hl; omega)
      refine ⟨w, h1, h2, fun g hg => ?_⟩
      rcases List.mem_cons.mp hg with q | q
      · rw [q]
        refine S_zero_of fun i _ => ?_
        cases e : U i with
        | true => rw [hz i e]; grind
        | false => rw [h1 i e]; grind
      · exact h3 g q
    · obtain ⟨p, hp⟩ := Classical.not_forall.mp hz
      obtain ⟨hUp, hfp⟩ : U p = true ∧ f p ≠ 0 := by
        by_cases q : U p = true
        · exact ⟨q, fun z => hp fun _ => z⟩
        · exact absurd (fun z => absurd z q) hp
      have hpn := hU p hUp
      let U' : Nat → Bool := fun i => U i && decide (i ≠ p)
      have hlen : ((List.range n).filter U).length ≤ ((List.range n).filter U').length + 1 := by
        have e : (List.range n).filter U' = ((List.range n).filter U).filter fun i => decide (i ≠ p) := by
          rw [List.filter_filter]
          refine List.filter_congr fun i _ => ?_
          simp only [U']
          rw [Bool.and_comm]
        rw [e]
        have nd : ((List.range n).filter U).Nodup := List.Nodup.sublist List.filter_sublist List.nodup_range
        have : ((List.range n).filter U).filter (fun i => decide (i ≠ p)) = ((List.range n).filter U).erase p := by
          rw [nd.erase_eq_filter]
          refine List.filter_congr fun i _ => ?_
          by_cases q : i = p <;> simp [q]
        rw [this]
        have hm : p ∈ (List.range n).filter U := List.mem_filter.mpr ⟨List.mem_range.mpr hpn, hUp⟩
        rw [List.length_erase_of_mem hm]
        omega
      obtain ⟨w, h1, h2, h3⟩ := homSol (gs.map fun g => fun i => g i - g p / f p * f i) n U' (fun i hi => hU i (by
        have : (U i && decide (i ≠ p)) = true := hi
        exact (Bool.and_eq_true_iff.mp this).1)) (by rw [List.length_map]; rw [List.length_cons] at hl; omega)
      have hwp : w p = 0 := h1 p (by simp [U'])
      let t : Rat := -(S n (fun i => f i * w i)) / f p
      refine ⟨fun i => if i = p then t else w i, fun i hi => ?_, ?_, fun g hg => ?_⟩
      · have ne : i ≠ p := fun e => by rw [e, hUp] at hi; cases hi
        simp only [if_neg ne]
        exact h1 i (by show (U i && decide (i ≠ p)) = false; rw [hi]; rfl)
      · obtain ⟨i, hi, hw⟩ := h2
        have ne : i ≠ p := fun e => hw (by rw [e]; exact hwp)
        exact ⟨i, hi, by simp only [if_neg ne]; exact hw⟩
      · have key : ∀ g : Nat → Rat, S n (fun i => g i * (if i = p then t else w i)) = S n (fun i => g i * w i) + g p * t := fun g => by
          rw [S_split hpn, S_split (f := fun i => g i * w i) hpn, hwp]
          have : S n (fun i => if i = p then 0 else g i * (if i = p then t else w i)) = S n (fun i => if i = p then 0 else g i * w i) := S_congr fun i _ => by
            by_cases e : i = p <;> simp [e]
          rw [this]
          simp only [if_pos rfl]
          grind
        rcases List.mem_cons.mp hg with q | q
        · rw [q, key]
          simp only [t]
          grind
        · rw [key]
          have h4 := h3 _ (List.mem_map.mpr ⟨g, q, rfl⟩)
          have e : S n (fun i => (g i - g p / f p * f i) * w i) = S n (fun i => g i * w i) - g p / f p * S n (fun i => f i * w i) := by
            have : S n (fun i => (g i - g p / f p * f i) * w i) = S n (fun i => g i * w i + (-(g p / f p)) * (f i * w i)) := S_congr fun i _ => by grind
            rw [this, S_add, S_mul]; grind
          rw [e] at h4
          simp only [t]
          grind
  termination_by fs => fs.length
  decreasing_by all_goals simp
end Hq
end
section
set_option linter.all false
set_option maxHeartbeats 1000000
/-! the elimination of variables, with the lines that are dropped -/
namespace Hq
theorem filt_le {α : Type} (p q : α → Bool) : ∀ l : List α, (∀ a ∈ l, p a = true → q a = true) → (l.filter p).length ≤ (l.filter q).length
  | [], _ => Nat.le_refl _
  | a :: l, h => by
    have ih := filt_le p q l fun b hb => h b (List.mem_cons_of_mem _ hb)
    have ha := h a List.mem_cons_self
    rw [List.filter_cons, List.filter_cons]
    cases e : p a with
    | true => rw [if_pos rfl, ha e, if_pos rfl, List.length_cons, List.length_cons]; omega
    | false =>
      rw [if_neg (by simp)]
      split
      · rw [List.length_cons]; omega
      · exact ih
theorem filt_lt {α : Type} (p q : α → Bool) : ∀ l : List α, (∀ a ∈ l, p a = true → q a = true) → (∃ a ∈ l, q a = true ∧ p a = false) → (l.filter p).length < (l.filter q).length
  | [], _, h => by obtain ⟨a, h, _⟩ := h; cases h
  | a :: l, h, hx => by
    have hl : ∀ b ∈ l, p b = true → q b = true := fun b hb => h b (List.mem_cons_of_mem _ hb)
    have ha := h a List.mem_cons_self
    rw [List.filter_cons, List.filter_cons]
    cases e : p a with
    | true =>
      have ih := filt_lt p q l hl (by
        obtain ⟨b, hb, h1, h2⟩ := hx
        rcases List.mem_cons.mp hb with z | z
        · rw [z, e] at h2; cases h2
        · exact ⟨b, z, h1, h2⟩)
      rw [if_pos rfl, ha e, if_pos rfl, List.length_cons, List.length_cons]; omega
    | false =>
      rw [if_neg (by simp)]
      cases e2 : q a with
      | true =>
        have := filt_le p q l hl
        rw [if_pos rfl, List.length_cons]; omega
      | false =>
        rw [if_neg (by simp)]
        exact filt_lt p q l hl (by
          obtain ⟨b, hb, h1, h2⟩ := hx
          rcases List.mem_cons.mp hb with z | z
          · rw [z, e2] at h1; cases h1
          · exact ⟨b, z, h1, h2⟩)
/-- a least quotient -/
theorem least_at (g : Nat → Rat) (p : Nat → Prop) : ∀ n, (∃ i, i < n ∧ p i) → ∃ i, i < n ∧ p i ∧ ∀ j, j < n → p j → g i ≤ g j
  | 0, h => by obtain ⟨i, h, _⟩ := h; omega
  | n + 1, h => by
    by_cases hs : ∃ i, i < n ∧ p i
    · obtain ⟨i, h1, h2, h3⟩ := least_at g p n hs
      by_cases hn : p n ∧ g n < g i
      · refine ⟨n, by omega, hn.1, fun j hj hp => ?_⟩
        rcases Nat.lt_or_ge j n with q | q
        · have := h3 j q hp; have := hn.2; grind
        · have e : j = n := by omega
          rw [e]; grind
      · refine ⟨i, by omega, h2, fun j hj hp => ?_⟩
        rcases Nat.lt_or_ge j n with q | q
        · exact h3 j q hp
        · have e : j = n := by omega
          have : ¬ g n < g i := fun z => hn ⟨e ▸ hp, z⟩
          rw [e]; grind
    · obtain ⟨i, h1, h2⟩ := h
      have e : i = n := by
        rcases Nat.lt_or_ge i n with q | q
        · exact absurd ⟨i, q, h2⟩ hs
        · omega
      refine ⟨i, h1, h2, fun j hj hp => ?_⟩
      rcases Nat.lt_or_ge j n with q | q
      · exact absurd ⟨j, q, hp⟩ hs
      · have e2 : j = n := by omega
        rw [e, e2]; grind
section
variable (n K : Nat) (U : Nat → Bool) (F : Nat → Nat → Rat) (Bd : Nat → Rat)
def val (μ x : Nat → Rat) : Rat := S K fun i => μ i * (S n (fun j => F i j * x j) - Bd i)
def Cone (P : List Nat) (μ : Nat → Rat) : Prop := (∀ i, i < K → U i = true → 0 ≤ μ i) ∧ ∀ q ∈ P, S K (fun i => μ i * F i q) = 0
def supp (μ : Nat → Rat) : Nat → Bool := fun i => U i && decide (μ i ≠ 0)
def card (μ : Nat → Rat) : Nat := ((List.range K).filter (supp U μ)).length
def Sub (μ ν : Nat → Rat) : Prop := ∀ i, i < K → U i = true → ν i = 0 → μ i = 0
theorem val_lin (α β : Rat) (a b x : Nat → Rat) : val n K F Bd (fun i => α * a i + β * b i) x = α * val n K F Bd a x + β * val n K F Bd b x := by
  unfold val
  rw [← S_mul, ← S_mul, ← S_add]
  exact S_congr fun i _ => by grind
theorem cone_lin {P : List Nat} {a b : Nat → Rat} (ha : ∀ q ∈ P, S K (fun i => a i * F i q) = 0) (hb : ∀ q ∈ P, S K (fun i => b i * F i q) = 0) (α β : Rat) : ∀ q ∈ P, S K (fun i => (α * a i + β * b i) * F i q) = 0 := fun q hq => by
  have : S K (fun i => (α * a i + β * b i) * F i q) = α * S K (fun i => a i * F i q) + β * S K (fun i => b i * F i q) := by
    rw [← S_mul, ← S_mul, ← S_add]
    exact S_congr fun i _ => by grind
  rw [this, ha q hq, hb q hq]; grind
theorem supp_true {μ : Nat → Rat} {i : Nat} : supp U μ i = true ↔ U i = true ∧ μ i ≠ 0 := by simp [supp]
theorem card_le {μ ν : Nat → Rat} (h : Sub K U μ ν) : card K U μ ≤ card K U ν := filt_le _ _ _ fun i hi hs => by
  obtain ⟨h1, h2⟩ := (supp_true U).mp hs
  exact (supp_true U).mpr ⟨h1, fun z => h2 (h i (List.mem_range.mp hi) h1 z)⟩
theorem card_lt {μ ν : Nat → Rat} (h : Sub K U μ ν) {i : Nat} (hi : i < K) (hu : U i = true) (h1 : ν i ≠ 0) (h2 : μ i = 0) : card K U μ < card K U ν := filt_lt _ _ _ (fun i hi hs => by
  obtain ⟨h1, h2⟩ := (supp_true U).mp hs
  exact (supp_true U).mpr ⟨h1, fun z => h2 (h i (List.mem_range.mp hi) h1 z)⟩) ⟨i, List.mem_range.mpr hi, (supp_true U).mpr ⟨hu, h1⟩, by
    cases e : supp U μ i with
    | false => rfl
    | true => exact absurd h2 ((supp_true U).mp e).2⟩
/-- away from w -/
theorem away {P : List Nat} {μ w : Nat → Rat} (hc : Cone K U F P μ) (hw0 : ∀ i, i < K → U i = true → μ i = 0 → w i = 0) (hwU : ∀ i, U i = false → w i = 0) (hk : ∀ q ∈ P, S K (fun i => w i * F i q) = 0) (hp : ∃ i, i < K ∧ 0 < w i) :
    ∃ θ : Rat, 0 < θ ∧ Cone K U F P (fun i => 1 * μ i + (-θ) * w i) ∧ Sub K U (fun i => 1 * μ i + (-θ) * w i) μ ∧ card K U (fun i => 1 * μ i + (-θ) * w i) < card K U μ := by
  obtain ⟨i0, h1, h2, h3⟩ := least_at (fun i => μ i / w i) (fun i => 0 < w i) K hp
  have hU0 : U i0 = true := by
    cases e : U i0 with
    | true => rfl
    | false => have := hwU i0 e; grind
  have hm0 : μ i0 ≠ 0 := fun z => by have := hw0 i0 h1 hU0 z; grind
  have hmp : 0 < μ i0 := by have := hc.1 i0 h1 hU0; grind
  have hsub : Sub K U (fun i => 1 * μ i + (-(μ i0 / w i0)) * w i) μ := fun i hi hu hz => by
    have := hw0 i hi hu hz
    simp only [hz, this]; grind
  refine ⟨μ i0 / w i0, ?_, ⟨fun i hi hu => ?_, cone_lin K F hc.2 hk 1 _⟩, hsub, card_lt K U hsub h1 hU0 hm0 ?_⟩
  · rw [Rat.div_def]
    exact Rat.mul_pos hmp (Rat.inv_pos.mpr h2)
  · have hmi := hc.1 i hi hu
    have ht : 0 ≤ μ i0 / w i0 := by
      rw [Rat.div_def]
      exact Rat.mul_nonneg (by grind) (by have := Rat.inv_pos.mpr h2; grind)
    by_cases q : 0 < w i
    · have h4 := h3 i hi q
      have h5 : μ i0 / w i0 * w i ≤ μ i / w i * w i := Rat.mul_le_mul_of_nonneg_right h4 (by grind)
      have h6 : μ i / w i * w i = μ i := by grind
      grind
    · have h5 : μ i0 / w i0 * w i ≤ 0 := by
        have h7 : 0 ≤ μ i0 / w i0 * (-(w i)) := Rat.mul_nonneg ht (by grind)
        grind
      grind
  · grind
/-- a vector with a large support is made of two smaller ones -/
theorem split_big {P : List Nat} {μ : Nat → Rat} (hc : Cone K U F P μ) (hb : P.length + 1 < card K U μ) :
    ∃ (a b : Nat → Rat) (α β : Rat), 0 ≤ α ∧ 0 ≤ β ∧ Cone K U F P a ∧ Cone K U F P b ∧ Sub K U a μ ∧ Sub K U b μ ∧ card K U a < card K U μ ∧ card K U b < card K U μ ∧ ∀ x, val n K F Bd μ x = α * val n K F Bd a x + β * val n K F Bd b x := by
  obtain ⟨s0, hs0⟩ := List.exists_mem_of_length_pos (l := (List.range K).filter (supp U μ)) (by show 0 < card K U μ; omega)
  obtain ⟨hs1, hs2⟩ := List.mem_filter.mp hs0
  obtain ⟨hsU, hsm⟩ := (supp_true U).mp hs2
  have hsK := List.mem_range.mp hs1
  let V : Nat → Bool := fun i => decide (i < K) && (supp U μ i && decide (i ≠ s0))
  have hVt : ∀ i, V i = true ↔ i < K ∧ (U i = true ∧ μ i ≠ 0) ∧ i ≠ s0 := fun i => by
    simp only [V, Bool.and_eq_true, decide_eq_true_eq]
    rw [supp_true U]
  have hcard : card K U μ ≤ ((List.range K).filter V).length + 1 := by
    have e : (List.range K).filter V = ((List.range K).filter (supp U μ)).filter fun i => decide (i ≠ s0) := by
      rw [List.filter_filter]
      refine List.filter_congr fun i hi => ?_
      have := List.mem_range.mp hi
      simp only [V]
      rw [decide_eq_true this, Bool.true_and, Bool.and_comm]
    have nd : ((List.range K).filter (supp U μ)).Nodup := List.Nodup.sublist List.filter_sublist List.nodup_range
    have e2 : ((List.range K).filter (supp U μ)).filter (fun i => decide (i ≠ s0)) = ((List.range K).filter (supp U μ)).erase s0 := by
      rw [nd.erase_eq_filter]
      refine List.filter_congr fun i _ => ?_
      by_cases q : i = s0 <;> simp [q]
    rw [e, e2, List.length_erase_of_mem hs0]
    show card K U μ ≤ card K U μ - 1 + 1
    omega
  obtain ⟨w, w1, ⟨i1, hi1, hw1⟩, w3⟩ := homSol (P.map fun q => fun i => F i q) K V (fun i hi => ((hVt i).mp hi).1) (by rw [List.length_map]; omega)
  have hk : ∀ q ∈ P, S K (fun i => w i * F i q) = 0 := fun q hq => by
    rw [← w3 _ (List.mem_map.mpr ⟨q, hq, rfl⟩)]
    exact S_congr fun i _ => by grind
  have hw0 : ∀ i, i < K → U i = true → μ i = 0 → w i = 0 := fun i _ _ hz => w1 i (by
    cases e : V i with
    | false => rfl
    | true => exact absurd hz ((hVt i).mp e).2.1.2)
  have hwU : ∀ i, U i = false → w i = 0 := fun i hu => w1 i (by
    cases e : V i with
    | false => rfl
    | true => rw [((hVt i).mp e).2.1.1] at hu; cases hu)
  have hws : w s0 = 0 := w1 s0 (by
    cases e : V s0 with
    | false => rfl
    | true => exact absurd rfl ((hVt s0).mp e).2.2)
  -- one that has a positive place
  have main : ∀ v : Nat → Rat, (∀ i, i < K → U i = true → μ i = 0 → v i = 0) → (∀ i, U i = false → v i = 0) → (∀ q ∈ P, S K (fun i => v i * F i q) = 0) → v s0 = 0 → (∃ i, i < K ∧ 0 < v i) →
      ∃ (a b : Nat → Rat) (α β : Rat), 0 ≤ α ∧ 0 ≤ β ∧ Cone K U F P a ∧ Cone K U F P b ∧ Sub K U a μ ∧ Sub K U b μ ∧ card K U a < card K U μ ∧ card K U b < card K U μ ∧ ∀ x, val n K F Bd μ x = α * val n K F Bd a x + β * val n K F Bd b x := by
    intro v v0 vU vk vs hp
    obtain ⟨θ, t1, t2, t3, t4⟩ := away K U F hc v0 vU vk hp
    by_cases hn : ∃ i, i < K ∧ v i < 0
    · have nk : ∀ q ∈ P, S K (fun i => (-(v i)) * F i q) = 0 := fun q hq => by
        have : S K (fun i => (-(v i)) * F i q) = (-1) * S K (fun i => v i * F i q) := by
          rw [← S_mul]
          exact S_congr fun i _ => by grind
        rw [this, vk q hq]; grind
      obtain ⟨η, e1, e2, e3, e4⟩ := away K U F (w := fun i => -(v i)) hc (fun i a b c => by rw [v0 i a b c]; grind) (fun i a => by rw [vU i a]; grind) nk (by
        obtain ⟨i, a, b⟩ := hn
        exact ⟨i, a, by grind⟩)
      have hs : 0 < θ + η := by grind
      have hsi : 0 < (θ + η)⁻¹ := Rat.inv_pos.mpr hs
      refine ⟨_, _, η * (θ + η)⁻¹, θ * (θ + η)⁻¹, Rat.mul_nonneg (by grind) (by grind), Rat.mul_nonneg (by grind) (by grind), t2, e2, t3, e3, t4, e4, fun x => ?_⟩
      rw [← val_lin]
      unfold val
      refine S_congr fun i _ => ?_
      congr 1
      have h1 : (θ + η) * (θ + η)⁻¹ = 1 := Rat.mul_inv_cancel _ (by grind)
      grind
    · refine ⟨_, v, 1, θ, by grind, by grind, t2, ⟨fun i hi hu => ?_, vk⟩, t3, v0, t4, card_lt K U v0 hsK hsU hsm vs, fun x => ?_⟩
      · have : ¬ v i < 0 := fun z => hn ⟨i, hi, z⟩
        grind
      · rw [← val_lin]
        unfold val
        refine S_congr fun i _ => ?_
        congr 1
        grind
  rcases (by grind : 0 < w i1 ∨ w i1 < 0) with q | q
  · exact main w hw0 hwU hk hws ⟨i1, hi1, q⟩
  · refine main (fun i => -(w i)) (fun i a b c => by rw [hw0 i a b c]; grind) (fun i a => by rw [hwU i a]; grind) (fun p hp => ?_) (by rw [hws]; grind) ⟨i1, hi1, by grind⟩
    have : S K (fun i => (-(w i)) * F i p) = (-1) * S K (fun i => w i * F i p) := by
      rw [← S_mul]
      exact S_congr fun i _ => by grind
    rw [this, hk p hp]; grind
end
end Hq
end
section
set_option linter.all false
set_option maxHeartbeats 1000000
/-! the elimination keeps enough lines -/
namespace Hq
def Sat (n : Nat) (l : Line) (x : Nat → Rat) : Prop := S n (fun j => getQ l.f j * x j) ≤ l.b
/-- a number between -/
theorem between_ex (lows highs : List Rat) (h : ∀ l ∈ lows, ∀ u ∈ highs, l ≤ u) : ∃ t : Rat, (∀ l ∈ lows, l ≤ t) ∧ ∀ u ∈ highs, t ≤ u := by
  have mx : ∀ xs : List Rat, xs ≠ [] → ∃ m ∈ xs, ∀ y ∈ xs, y ≤ m := by
    intro xs
    induction xs with
    | nil => intro h; exact absurd rfl h
    | cons x xs ih =>
      intro _
      by_cases e : xs = []
      · subst e
        exact ⟨x, List.mem_cons_self, fun y hy => by
          have : y = x := by simpa using hy
          rw [this]; grind⟩
      · obtain ⟨m, hm, hM⟩ := ih e
        by_cases q : m ≤ x
        · exact ⟨x, List.mem_cons_self, fun y hy => by
            rcases List.mem_cons.mp hy with z | z
            · rw [z]; grind
            · have := hM y z; grind⟩
        · exact ⟨m, List.mem_cons_of_mem _ hm, fun y hy => by
            rcases List.mem_cons.mp hy with z | z
            · rw [z]; grind
            · exact hM y z⟩
  by_cases e : lows = []
  · by_cases e2 : highs = []
    · exact ⟨0, by simp [e], by simp [e2]⟩
    · obtain ⟨m, hm, hM⟩ := mx (highs.map fun z => -z) (by simpa using e2)
      refine ⟨-m, by simp [e], fun u hu => ?_⟩
      have := hM (-u) (List.mem_map.mpr ⟨u, hu, rfl⟩)
      grind
  · obtain ⟨m, hm, hM⟩ := mx lows e
    exact ⟨m, hM, fun u hu => h m hm u hu⟩
theorem quot_le {a b u v c d : Rat} (hu : 0 < u) (hv : v < 0) (h : (0 - v) * a + u * b ≤ (0 - v) * c + u * d) : (d - b) / v ≤ (c - a) / u := by
  have iu : 0 < u⁻¹ := Rat.inv_pos.mpr hu
  have iv : 0 < (-v)⁻¹ := Rat.inv_pos.mpr (by grind)
  have e1 : (d - b) / v = (b - d) * (-v)⁻¹ := by grind
  have e2 : (c - a) / u = (c - a) * u⁻¹ := by grind
  have h1 : 0 ≤ ((0 - v) * (c - a) + u * (d - b)) * (u⁻¹ * (-v)⁻¹) := Rat.mul_nonneg (by grind) (Rat.mul_nonneg (by grind) (by grind))
  have h2 : u * u⁻¹ = 1 := Rat.mul_inv_cancel _ (by grind)
  have h3 : (-v) * (-v)⁻¹ = 1 := Rat.mul_inv_cancel _ (by grind)
  rw [e1, e2]
  have e3 : ((0 - v) * (c - a) + u * (d - b)) * (u⁻¹ * (-v)⁻¹) = (c - a) * u⁻¹ * (-v * (-v)⁻¹) + (d - b) * (-v)⁻¹ * (u * u⁻¹) := by
    generalize u⁻¹ = p
    generalize (-v)⁻¹ = q
    grind
  rw [e3, h2, h3] at h1
  generalize u⁻¹ = p at *
  generalize (-v)⁻¹ = q at *
  grind
theorem quot_lo {a v d t : Rat} (hv : v < 0) (h : (d - a) / v ≤ t) : a + v * t ≤ d := by
  have h1 : 0 ≤ (-v) * (t - (d - a) / v) := Rat.mul_nonneg (by grind) (by grind)
  have h2 : v * ((d - a) / v) = d - a := by grind
  grind
theorem quot_hi {a v d t : Rat} (hv : 0 < v) (h : t ≤ (d - a) / v) : a + v * t ≤ d := by
  have h1 : 0 ≤ v * ((d - a) / v - t) := Rat.mul_nonneg (by grind) (by grind)
  have h2 : v * ((d - a) / v) = d - a := by grind
  grind
theorem lenf {n k : Nat} {l : Line} (h : Shp n k l) : l.f.length = n := h.1
theorem comb_f {n k p : Nat} {h l : Line} (hh : Shp n k h) (hl : Shp n k l) {j : Nat} (hj : j < n) : getQ (combine p h l).f j = (0 - getQ l.f p) * getQ h.f j + getQ h.f p * getQ l.f j := by
  unfold combine addedL scaledL
  simp only []
  rw [getQ_zip _ _ _ _ (by rw [List.length_map, hh.1]; exact hj) (by rw [List.length_map, hl.1]; exact hj), getQ_map _ _ _ (by rw [hh.1]; exact hj), getQ_map _ _ _ (by rw [hl.1]; exact hj)]
theorem comb_m {n k p : Nat} {h l : Line} (hh : Shp n k h) (hl : Shp n k l) {j : Nat} (hj : j < k) : getQ (combine p h l).m j = (0 - getQ l.f p) * getQ h.m j + getQ h.f p * getQ l.m j := by
  unfold combine addedL scaledL
  simp only []
  rw [getQ_zip _ _ _ _ (by rw [List.length_map, hh.2]; exact hj) (by rw [List.length_map, hl.2]; exact hj), getQ_map _ _ _ (by rw [hh.2]; exact hj), getQ_map _ _ _ (by rw [hl.2]; exact hj)]
theorem comb_b (p : Nat) (h l : Line) : (combine p h l).b = (0 - getQ l.f p) * h.b + getQ h.f p * l.b := rfl
theorem comb_shp {n k p : Nat} {h l : Line} (hh : Shp n k h) (hl : Shp n k l) : Shp n k (combine p h l) := by
  unfold Shp combine addedL scaledL
  simp [hh.1, hh.2, hl.1, hl.2]
section
variable (n K : Nat) (U : Nat → Bool) (F : Nat → Nat → Rat) (Bd : Nat → Rat)
/-- a line and what makes it -/
structure Rep (l : Line) : Prop where
  shp : Shp n K l
  pos : ∀ i, i < K → U i = true → 0 ≤ getQ l.m i
  f : ∀ j, j < n → getQ l.f j = S K (fun i => getQ l.m i * F i j)
  b : l.b = S K (fun i => getQ l.m i * Bd i)
theorem rep_val {l : Line} (h : Rep n K U F Bd l) (x : Nat → Rat) : val n K F Bd (getQ l.m) x = S n (fun j => getQ l.f j * x j) - l.b := by
  unfold val
  have e1 : S n (fun j => getQ l.f j * x j) = S K (fun i => getQ l.m i * S n (fun j => F i j * x j)) := by
    have : S n (fun j => getQ l.f j * x j) = S n (fun j => S K (fun i => getQ l.m i * (F i j * x j))) := S_congr fun j hj => by
      rw [h.f j hj]
      have : S K (fun i => getQ l.m i * (F i j * x j)) = x j * S K (fun i => getQ l.m i * F i j) := by
        rw [← S_mul]; exact S_congr fun i _ => by grind
      rw [this]; grind
    rw [this, S_swap]
    exact S_congr fun i _ => S_mul _ _ _
  have e2 : S K (fun i => getQ l.m i * (S n (fun j => F i j * x j) - Bd i)) = S K (fun i => getQ l.m i * S n (fun j => F i j * x j)) + (-1) * S K (fun i => getQ l.m i * Bd i) := by
    rw [← S_mul, ← S_add]
    exact S_congr fun i _ => by grind
  rw [e2, e1, h.b]; grind
theorem rep_sat {l : Line} (h : Rep n K U F Bd l) {x : Nat → Rat} : Sat n l x ↔ val n K F Bd (getQ l.m) x ≤ 0 := by
  rw [rep_val n K U F Bd h]
  unfold Sat
  constructor
  · intro; grind
  · intro; grind
theorem rep_comb {p : Nat} {h l : Line} (hp : p < n) (hh : Rep n K U F Bd h) (hl : Rep n K U F Bd l) (h0 : 0 < getQ h.f p) (l0 : getQ l.f p < 0) : Rep n K U F Bd (combine p h l) := by
  have lin : ∀ G : Nat → Rat, S K (fun i => getQ (combine p h l).m i * G i) = (0 - getQ l.f p) * S K (fun i => getQ h.m i * G i) + getQ h.f p * S K (fun i => getQ l.m i * G i) := fun G => by
    rw [← S_mul, ← S_mul, ← S_add]
    exact S_congr fun i hi => by rw [comb_m hh.shp hl.shp hi]; grind
  refine ⟨comb_shp hh.shp hl.shp, fun i hi hu => ?_, fun j hj => ?_, ?_⟩
  · rw [comb_m hh.shp hl.shp hi]
    have h1 := Rat.mul_nonneg (show 0 ≤ 0 - getQ l.f p by grind) (hh.pos i hi hu)
    have h2 := Rat.mul_nonneg (show 0 ≤ getQ h.f p by grind) (hl.pos i hi hu)
    grind
  · rw [comb_f hh.shp hl.shp hj, lin fun i => F i j, hh.f j hj, hl.f j hj]
  · rw [comb_b, lin Bd, hh.b, hl.b]
/-- what stays true: the kept lines are enough -/
structure Inv (P : List Nat) (ls : List Line) : Prop where
  rep : ∀ l ∈ ls, Rep n K U F Bd l
  nul : ∀ l ∈ ls, ∀ q ∈ P, getQ l.f q = 0
  main : ∀ μ, Cone K U F P μ → ∀ x, (∀ l ∈ ls, Sub K U (getQ l.m) μ → Sat n l x) → val n K F Bd μ x ≤ 0
theorem move_dot {f : List Rat} {p : Nat} (hp : p < n) (x : Nat → Rat) (t : Rat) : S n (fun j => getQ f j * (x j + if j = p then t else 0)) = S n (fun j => getQ f j * x j) + getQ f p * t := by
  have : S n (fun j => getQ f j * (x j + if j = p then t else 0)) = S n (fun j => getQ f j * x j + (if j = p then getQ f p * t else 0)) := S_congr fun j _ => by
    by_cases e : j = p
    · rw [e, if_pos rfl, if_pos rfl]; grind
    · rw [if_neg e, if_neg e]; grind
  rw [this, S_add, S_only (f := fun j => if j = p then getQ f p * t else 0) hp (fun i _ h => if_neg h), if_pos rfl]
theorem parts_card {loose : List Nat} (hl : loose = (List.range K).filter U) (l : Line) : partsUsed l loose = card K U (getQ l.m) := by
  unfold partsUsed card
  rw [hl, List.filter_filter]
  congr 1
  refine List.filter_congr fun i _ => ?_
  unfold supp
  rw [Bool.and_comm]
theorem inv_step {P : List Nat} {ls : List Line} {p : Nat} {loose : List Nat} (hl : loose = (List.range K).filter U) (hp : p < n) (I : Inv n K U F Bd P ls) : Inv n K U F Bd (p :: P) (elimStep p loose P.length ls) := by
  have mem : ∀ c ∈ elimStep p loose P.length ls, (c ∈ ls ∧ getQ c.f p = 0) ∨ ∃ h ∈ ls, ∃ l ∈ ls, 0 < getQ h.f p ∧ getQ l.f p < 0 ∧ c = combine p h l := fun c hc => by
    unfold elimStep at hc
    rcases List.mem_append.mp hc with q | q
    · obtain ⟨a, b⟩ := List.mem_filter.mp q
      exact .inl ⟨a, of_decide_eq_true b⟩
    · unfold pairs at q
      obtain ⟨h, hh, q⟩ := List.mem_flatMap.mp q
      obtain ⟨q, _⟩ := List.mem_filter.mp q
      obtain ⟨l, hl, rfl⟩ := List.mem_map.mp q
      obtain ⟨a1, b1⟩ := List.mem_filter.mp hh
      obtain ⟨a2, b2⟩ := List.mem_filter.mp hl
      exact .inr ⟨h, a1, l, a2, of_decide_eq_true b1, of_decide_eq_true b2, rfl⟩
  refine ⟨fun c hc => ?_, fun c hc q hq => ?_, ?_⟩
  · rcases mem c hc with ⟨a, _⟩ | ⟨h, hh, l, hl, h0, l0, rfl⟩
    · exact I.rep c a
    · exact rep_comb n K U F Bd hp (I.rep h hh) (I.rep l hl) h0 l0
  · rcases mem c hc with ⟨a, b⟩ | ⟨h, hh, l, hl, h0, l0, rfl⟩
    · rcases List.mem_cons.mp hq with z | z
      · rw [z]; exact b
      · exact I.nul c a q z
    · have rc := rep_comb n K U F Bd hp (I.rep h hh) (I.rep l hl) h0 l0
      by_cases hqn : q < n
      · rw [comb_f (I.rep h hh).shp (I.rep l hl).shp hqn]
        rcases List.mem_cons.mp hq with z | z
        · rw [z]; grind
        · rw [I.nul h hh q z, I.nul l hl q z]; grind
      · exact getQ_ge (by rw [rc.shp.1]; omega)
  · -- small supports
    have small : ∀ (μ : Nat → Rat), card K U μ ≤ P.length + 2 → Cone K U F (p :: P) μ → ∀ x, (∀ l ∈ elimStep p loose P.length ls, Sub K U (getQ l.m) μ → Sat n l x) → val n K F Bd μ x ≤ 0 := by
      intro μ hc hC x hs
      have hC' : Cone K U F P μ := ⟨hC.1, fun q hq => hC.2 q (List.mem_cons_of_mem _ hq)⟩
      let lowOf : Line → Rat := fun l => (l.b - S n (fun j => getQ l.f j * x j)) / getQ l.f p
      open Classical in
      let lsu : List Line := ls.filter fun l => decide (Sub K U (getQ l.m) μ)
      have hlsu : ∀ l, l ∈ lsu ↔ l ∈ ls ∧ Sub K U (getQ l.m) μ := fun l => by
        simp only [lsu, List.mem_filter, decide_eq_true_eq]
      obtain ⟨t, t1, t2⟩ := between_ex ((lsu.filter fun l => decide (getQ l.f p < 0)).map lowOf) ((lsu.filter fun l => decide (0 < getQ l.f p)).map lowOf) (by
        intro lo hlo hi hhi
        obtain ⟨l, hl1, rfl⟩ := List.mem_map.mp hlo
        obtain ⟨h, hh1, rfl⟩ := List.mem_map.mp hhi
        obtain ⟨hl2, hl3⟩ := List.mem_filter.mp hl1
        obtain ⟨hh2, hh3⟩ := List.mem_filter.mp hh1
        obtain ⟨hl4, hl5⟩ := (hlsu l).mp hl2
        obtain ⟨hh4, hh5⟩ := (hlsu h).mp hh2
        have l0 : getQ l.f p < 0 := of_decide_eq_true hl3
        have h0 : 0 < getQ h.f p := of_decide_eq_true hh3
        have rh := I.rep h hh4
        have rl := I.rep l hl4
        have hsub : Sub K U (getQ (combine p h l).m) μ := fun i hi hu hz => by
          rw [comb_m rh.shp rl.shp hi, hh5 i hi hu hz, hl5 i hi hu hz]; grind
        have hcard : partsUsed (combine p h l) loose ≤ P.length + 2 := by
          rw [parts_card K U hl]
          exact Nat.le_trans (card_le K U hsub) hc
        have hmem : combine p h l ∈ elimStep p loose P.length ls := by
          unfold elimStep pairs
          refine List.mem_append_right _ (List.mem_flatMap.mpr ⟨h, List.mem_filter.mpr ⟨hh4, decide_eq_true h0⟩, List.mem_filter.mpr ⟨List.mem_map.mpr ⟨l, List.mem_filter.mpr ⟨hl4, decide_eq_true l0⟩, rfl⟩, decide_eq_true hcard⟩⟩)
        have sat := hs _ hmem hsub
        unfold Sat at sat
        have e : S n (fun j => getQ (combine p h l).f j * x j) = (0 - getQ l.f p) * S n (fun j => getQ h.f j * x j) + getQ h.f p * S n (fun j => getQ l.f j * x j) := by
          rw [← S_mul, ← S_mul, ← S_add]
          exact S_congr fun j hj => by rw [comb_f rh.shp rl.shp hj]; grind
        rw [e, comb_b] at sat
        show lowOf l ≤ lowOf h
        simp only [lowOf]
        generalize S n (fun j => getQ h.f j * x j) = a at *
        generalize S n (fun j => getQ l.f j * x j) = b at *
        generalize getQ h.f p = u at *
        generalize getQ l.f p = v at *
        exact quot_le h0 l0 sat)
      have hx' := I.main μ hC' (fun j => x j + if j = p then t else 0) fun l hl1 hsub => by
        have hin : l ∈ lsu := (hlsu l).mpr ⟨hl1, hsub⟩
        unfold Sat
        rw [move_dot n hp x t]
        rcases (by grind : getQ l.f p < 0 ∨ getQ l.f p = 0 ∨ 0 < getQ l.f p) with q | q | q
        · have h1 := t1 (lowOf l) (List.mem_map.mpr ⟨l, List.mem_filter.mpr ⟨hin, decide_eq_true q⟩, rfl⟩)
          exact quot_lo q h1
        · have h1 := hs l (by
            unfold elimStep
            exact List.mem_append_left _ (List.mem_filter.mpr ⟨hl1, decide_eq_true q⟩)) hsub
          unfold Sat at h1
          rw [q]; grind
        · have h1 := t2 (lowOf l) (List.mem_map.mpr ⟨l, List.mem_filter.mpr ⟨hin, decide_eq_true q⟩, rfl⟩)
          exact quot_hi q h1
      have e : val n K F Bd μ (fun j => x j + if j = p then t else 0) = val n K F Bd μ x + t * S K (fun i => μ i * F i p) := by
        unfold val
        rw [← S_mul, ← S_add]
        refine S_congr fun i _ => ?_
        have : S n (fun j => F i j * (x j + if j = p then t else 0)) = S n (fun j => F i j * x j) + F i p * t := by
          have : S n (fun j => F i j * (x j + if j = p then t else 0)) = S n (fun j => F i j * x j + (if j = p then F i p * t else 0)) := S_congr fun j _ => by
            by_cases e : j = p
            · rw [e, if_pos rfl, if_pos rfl]; grind
            · rw [if_neg e, if_neg e]; grind
          rw [this, S_add, S_only (f := fun j => if j = p then F i p * t else 0) hp (fun i _ h => if_neg h), if_pos rfl]
        rw [this]; grind
      rw [e, hC.2 p List.mem_cons_self] at hx'
      grind
    have go : ∀ (c : Nat) (μ : Nat → Rat), card K U μ ≤ c → Cone K U F (p :: P) μ → ∀ x, (∀ l ∈ elimStep p loose P.length ls, Sub K U (getQ l.m) μ → Sat n l x) → val n K F Bd μ x ≤ 0 := by
      intro c
      induction c with
      | zero => exact fun μ hc hC x hs => small μ (by omega) hC x hs
      | succ c ih =>
        intro μ hc hC x hs
        by_cases hsm : card K U μ ≤ P.length + 2
        · exact small μ hsm hC x hs
        · obtain ⟨a, b, α, β, h1, h2, h3, h4, h5, h6, h7, h8, h9⟩ := split_big n K U F Bd hC (by rw [List.length_cons]; omega)
          have tr : ∀ v : Nat → Rat, Sub K U v μ → ∀ l ∈ elimStep p loose P.length ls, Sub K U (getQ l.m) v → Sat n l x := fun v hv l hl hsub => hs l hl fun i hi hu hz => hsub i hi hu (hv i hi hu hz)
          have va := ih a (by omega) h3 x (tr a h5)
          have vb := ih b (by omega) h4 x (tr b h6)
          rw [h9]
          have m1 : 0 ≤ α * (-(val n K F Bd a x)) := Rat.mul_nonneg h1 (by grind)
          have m2 : 0 ≤ β * (-(val n K F Bd b x)) := Rat.mul_nonneg h2 (by grind)
          grind
    exact fun μ hC x hs => go _ μ (Nat.le_refl _) hC x hs
/-- nothing to eliminate -/
theorem inv_same {ls : List Line} {p : Nat} {loose : List Nat} {steps : Nat} (ha : above p ls = []) (hb : below p ls = []) : elimStep p loose steps ls = ls := by
  unfold elimStep
  rw [ha]
  have : noughts p ls = ls := by
    unfold noughts
    rw [List.filter_eq_self]
    intro l hl
    have h1 : ¬ 0 < getQ l.f p := fun z => by
      have : l ∈ above p ls := List.mem_filter.mpr ⟨hl, decide_eq_true z⟩
      rw [ha] at this; cases this
    have h2 : ¬ getQ l.f p < 0 := fun z => by
      have : l ∈ below p ls := List.mem_filter.mpr ⟨hl, decide_eq_true z⟩
      rw [hb] at this; cases this
    exact decide_eq_true (by grind)
  rw [this]
  simp [pairs]
end
end Hq
end
section
set_option linter.all false
set_option maxHeartbeats 1000000
/-! the stages filled in -/
namespace Hq
theorem greatest_ge {xs : List Rat} : ∀ y ∈ xs, y ≤ greatest xs := by
  cases xs with
  | nil => intro y hy; cases hy
  | cons x xs =>
    have gen : ∀ (ys : List Rat) (b : Rat), b ≤ ys.foldl (fun b y => if b < y then y else b) b ∧ ∀ y ∈ ys, y ≤ ys.foldl (fun b y => if b < y then y else b) b := by
      intro ys
      induction ys with
      | nil => exact fun b => ⟨by grind, fun y hy => nomatch hy⟩
      | cons z ys ih =>
        intro b
        obtain ⟨h1, h2⟩ := ih (if b < z then z else b)
        have h3 : b ≤ (if b < z then z else b) := by split <;> grind
        have h4 : z ≤ (if b < z then z else b) := by split <;> grind
        rw [List.foldl_cons]
        refine ⟨by grind, fun y hy => ?_⟩
        rcases List.mem_cons.mp hy with q | q
        · rw [q]; grind
        · exact h2 y q
    exact fun y hy => (gen (x :: xs) x).2 y hy
theorem least_le {xs : List Rat} : ∀ y ∈ xs, least xs ≤ y := fun y hy => by
  have := greatest_ge (xs := xs.map fun x => 0 - x) (0 - y) (List.mem_map.mpr ⟨y, hy, rfl⟩)
  unfold least
  grind
theorem between_iff {v : Rat} {lows highs : List Rat} : between v lows highs = true ↔ (∀ l ∈ lows, l ≤ v) ∧ ∀ h ∈ highs, v ≤ h := by
  unfold between
  simp only [Bool.and_eq_true, List.all_eq_true, decide_eq_true_eq]
/-- the chosen one lies between; it is nought, the greatest of the lower or the least of the upper ones -/
theorem chosen_ok {lows highs : List Rat} (h : ∀ l ∈ lows, ∀ u ∈ highs, l ≤ u) : between (chosen lows highs) lows highs = true ∧ (chosen lows highs = 0 ∨ (lows ≠ [] ∧ chosen lows highs = greatest lows) ∨ (highs ≠ [] ∧ chosen lows highs = least highs)) := by
  by_cases h0 : between 0 lows highs = true
  · have e : chosen lows highs = 0 := by
      unfold chosen tried
      simp [List.find?_cons, h0]
    rw [e]
    exact ⟨h0, .inl rfl⟩
  · have h0' : between 0 lows highs = false := by simpa using h0
    by_cases hl : lows = []
    · by_cases hh : highs = []
      · exact absurd (between_iff.mpr ⟨by simp [hl], by simp [hh]⟩) h0
      · have hb : between (least highs) lows highs = true := between_iff.mpr ⟨by simp [hl], least_le⟩
        have e : chosen lows highs = least highs := by
          unfold chosen tried
          have e1 : lows.isEmpty = true := by rw [hl]; rfl
          have e2 : highs.isEmpty = false := by simpa using hh
          rw [e1, e2]
          simp [List.find?_cons, h0', hb]
        rw [e]
        exact ⟨hb, .inr (.inr ⟨hh, rfl⟩)⟩
    · have hb : between (greatest lows) lows highs = true := between_iff.mpr ⟨greatest_ge, fun u hu => h _ (greatest_mem hl) u hu⟩
      have e : chosen lows highs = greatest lows := by
        unfold chosen tried
        have e1 : lows.isEmpty = false := by simpa using hl
        rw [e1]
        simp [List.find?_cons, h0', hb]
      rw [e]
      exact ⟨hb, .inr (.inl ⟨hl, rfl⟩)⟩
section
variable (n K : Nat) (U : Nat → Bool) (F : Nat → Nat → Rat) (Bd : Nat → Rat)
theorem elim_succ (loose : List Nat) (ls : List Line) (p : Nat) : elim loose ls (p + 1) = ((elim loose ls p).1 ++ [(p, above p (elim loose ls p).2.1, below p (elim loose ls p).2.1)], elimStep p loose (elim loose ls p).2.2 (elim loose ls p).2.1, stepsOf p (elim loose ls p).2.2 (elim loose ls p).2.1) := rfl
theorem elim_inv {loose : List Nat} (hl : loose = (List.range K).filter U) {ls : List Line} (I0 : Inv n K U F Bd [] ls) : ∀ p, p ≤ n → ∃ P : List Nat, P.length = (elim loose ls p).2.2 ∧ (∀ q ∈ P, q < p) ∧ Inv n K U F Bd P (elim loose ls p).2.1 ∧ ∀ l ∈ (elim loose ls p).2.1, ∀ q, q < p → getQ l.f q = 0
  | 0, _ => ⟨[], rfl, (fun q hq => nomatch hq), I0, fun l _ q hq => by omega⟩
  | p + 1, hp => by
    obtain ⟨P, h1, h2, h3, h4⟩ := elim_inv hl I0 p (by omega)
    rw [elim_succ]
    simp only []
    by_cases he : above p (elim loose ls p).2.1 = [] ∧ below p (elim loose ls p).2.1 = []
    · rw [inv_same he.1 he.2]
      refine ⟨P, ?_, fun q hq => by have := h2 q hq; omega, h3, fun l hl q hq => ?_⟩
      · unfold stepsOf
        rw [he.1, he.2]; exact h1
      · rcases Nat.lt_or_ge q p with z | z
        · exact h4 l hl q z
        · have e : q = p := by omega
          have a1 : ¬ 0 < getQ l.f p := fun z => by
            have : l ∈ above p (elim loose ls p).2.1 := List.mem_filter.mpr ⟨hl, decide_eq_true z⟩
            rw [he.1] at this; cases this
          have a2 : ¬ getQ l.f p < 0 := fun z => by
            have : l ∈ below p (elim loose ls p).2.1 := List.mem_filter.mpr ⟨hl, decide_eq_true z⟩
            rw [he.2] at this; cases this
          rw [e]; grind
    · rw [← h1]
      have I' := inv_step n K U F Bd hl (by omega : p < n) h3
      refine ⟨p :: P, ?_, fun q hq => ?_, I', fun l hl2 q hq => ?_⟩
      · unfold stepsOf
        rw [if_neg, List.length_cons]
        intro z
        rw [Bool.and_eq_true] at z
        exact he ⟨List.isEmpty_iff.mp z.1, List.isEmpty_iff.mp z.2⟩
      · rcases List.mem_cons.mp hq with z | z
        · omega
        · have := h2 q z; omega
      · rcases Nat.lt_or_ge q p with z | z
        · unfold elimStep at hl2
          rcases List.mem_append.mp hl2 with y | y
          · exact h4 l (List.mem_filter.mp y).1 q z
          · unfold pairs at y
            obtain ⟨h, hh, y⟩ := List.mem_flatMap.mp y
            obtain ⟨y, _⟩ := List.mem_filter.mp y
            obtain ⟨l', hl', rfl⟩ := List.mem_map.mp y
            have m1 := (List.mem_filter.mp hh).1
            have m2 := (List.mem_filter.mp hl').1
            rw [comb_f (h3.rep h m1).shp (h3.rep l' m2).shp (by omega), h4 h m1 q z, h4 l' m2 q z]; grind
        · have e : q = p := by omega
          rw [e]
          exact I'.nul l hl2 p List.mem_cons_self
/-- the pairs of a stage hold where the next lines hold -/
theorem stage_pairs {loose : List Nat} (hl : loose = (List.range K).filter U) {ls : List Line} (I0 : Inv n K U F Bd [] ls) {p : Nat} (hp : p < n) {x : Nat → Rat} (hs : ∀ l ∈ (elim loose ls (p + 1)).2.1, Sat n l x) :
    ∀ h ∈ above p (elim loose ls p).2.1, ∀ l ∈ below p (elim loose ls p).2.1, Sat n (combine p h l) x := by
  intro h hh l hl2
  obtain ⟨P, h1, h2, h3, h4⟩ := elim_inv n K U F Bd hl I0 p (by omega)
  obtain ⟨Q, g1, g2, g3, g4⟩ := elim_inv n K U F Bd hl I0 (p + 1) (by omega)
  have m1 := (List.mem_filter.mp hh).1
  have m2 := (List.mem_filter.mp hl2).1
  have hp0 : 0 < getQ h.f p := of_decide_eq_true (List.mem_filter.mp hh).2
  have lp0 : getQ l.f p < 0 := of_decide_eq_true (List.mem_filter.mp hl2).2
  have rc := rep_comb n K U F Bd hp (h3.rep h m1) (h3.rep l m2) hp0 lp0
  refine (rep_sat n K U F Bd rc).mpr (g3.main _ ⟨rc.pos, fun q hq => ?_⟩ x fun l' hl' _ => hs l' hl')
  have hq' := g2 q hq
  rw [← rc.f q (by omega)]
  rcases Nat.lt_or_ge q p with z | z
  · rw [comb_f (h3.rep h m1).shp (h3.rep l m2).shp (by omega), h4 h m1 q z, h4 l m2 q z]; grind
  · have e : q = p := by omega
    rw [e, comb_f (h3.rep h m1).shp (h3.rep l m2).shp hp]; grind
/-- one stage -/
theorem stage_fill {loose : List Nat} (hl : loose = (List.range K).filter U) {ls : List Line} (I0 : Inv n K U F Bd [] ls) {p : Nat} (hp : p < n) {x : List Rat} (xl : x.length = n) (x0 : getQ x p = 0) (hs : ∀ l ∈ (elim loose ls (p + 1)).2.1, Sat n l (getQ x)) :
    (∀ lo ∈ limits p (below p (elim loose ls p).2.1) x, ∀ hi ∈ limits p (above p (elim loose ls p).2.1) x, lo ≤ hi) ∧
    ∀ l ∈ (elim loose ls p).2.1, Sat n l (getQ (fillStage x (p, above p (elim loose ls p).2.1, below p (elim loose ls p).2.1))) := by
  obtain ⟨P, h1, h2, h3, h4⟩ := elim_inv n K U F Bd hl I0 p (by omega)
  have pr := stage_pairs n K U F Bd hl I0 hp hs
  have dS : ∀ l ∈ (elim loose ls p).2.1, dotQ l.f x = S n (fun j => getQ l.f j * getQ x j) := fun l hm => dot_S (.inl (by rw [(h3.rep l hm).shp.1]; exact Nat.le_refl _))
  have hle : ∀ lo ∈ limits p (below p (elim loose ls p).2.1) x, ∀ hi ∈ limits p (above p (elim loose ls p).2.1) x, lo ≤ hi := by
    intro lo hlo hi hhi
    obtain ⟨l, hl1, rfl⟩ := List.mem_map.mp hlo
    obtain ⟨h, hh1, rfl⟩ := List.mem_map.mp hhi
    have m1 := (List.mem_filter.mp hh1).1
    have m2 := (List.mem_filter.mp hl1).1
    have hp0 : 0 < getQ h.f p := of_decide_eq_true (List.mem_filter.mp hh1).2
    have lp0 : getQ l.f p < 0 := of_decide_eq_true (List.mem_filter.mp hl1).2
    have sat := pr h hh1 l hl1
    unfold Sat at sat
    have e : S n (fun j => getQ (combine p h l).f j * getQ x j) = (0 - getQ l.f p) * S n (fun j => getQ h.f j * getQ x j) + getQ h.f p * S n (fun j => getQ l.f j * getQ x j) := by
      rw [← S_mul, ← S_mul, ← S_add]
      exact S_congr fun j hj => by rw [comb_f (h3.rep h m1).shp (h3.rep l m2).shp hj]; grind
    rw [e, comb_b] at sat
    rw [dS l m2, dS h m1]
    exact quot_le hp0 lp0 sat
  refine ⟨hle, fun l hm => ?_⟩
  obtain ⟨hb, _⟩ := chosen_ok hle
  obtain ⟨b1, b2⟩ := between_iff.mp hb
  unfold fillStage
  simp only []
  generalize chosen (limits p (below p (elim loose ls p).2.1) x) (limits p (above p (elim loose ls p).2.1) x) = v at b1 b2
  have ed : S n (fun j => getQ l.f j * getQ (x.set p v) j) = S n (fun j => getQ l.f j * getQ x j) + getQ l.f p * v := by
    rw [← move_dot n hp (getQ x) v]
    refine S_congr fun j hj => ?_
    congr 1
    rw [getQ_set]
    by_cases e : p = j
    · rw [if_pos ⟨e, by omega⟩, if_pos e.symm, ← e, x0]; grind
    · rw [if_neg (fun q => e q.1), if_neg (fun q => e q.symm)]; grind
  unfold Sat
  rw [ed]
  rcases (by grind : getQ l.f p < 0 ∨ getQ l.f p = 0 ∨ 0 < getQ l.f p) with q | q | q
  · have h1 := b1 _ (List.mem_map.mpr ⟨l, List.mem_filter.mpr ⟨hm, decide_eq_true q⟩, rfl⟩)
    rw [dS l hm] at h1
    exact quot_lo q h1
  · have h1 := hs l (by
      rw [elim_succ]
      unfold elimStep
      exact List.mem_append_left _ (List.mem_filter.mpr ⟨hm, decide_eq_true q⟩))
    unfold Sat at h1
    rw [q]; grind
  · have h1 := b2 _ (List.mem_map.mpr ⟨l, List.mem_filter.mpr ⟨hm, decide_eq_true q⟩, rfl⟩)
    rw [dS l hm] at h1
    exact quot_hi q h1
theorem fm_back {loose : List Nat} (hl : loose = (List.range K).filter U) {ls : List Line} (I0 : Inv n K U F Bd [] ls) : ∀ p, p ≤ n → ∀ x : List Rat, x.length = n → (∀ j, j < p → getQ x j = 0) → (∀ l ∈ (elim loose ls p).2.1, Sat n l (getQ x)) →
    ∀ l ∈ ls, Sat n l (getQ ((elim loose ls p).1.reverse.foldl fillStage x))
  | 0, _, x, _, _, hs => hs
  | p + 1, hp, x, xl, x0, hs => by
    obtain ⟨_, hf⟩ := stage_fill n K U F Bd hl I0 (by omega : p < n) xl (x0 p (by omega)) hs
    rw [elim_succ]
    simp only [List.reverse_append, List.reverse_cons, List.reverse_nil, List.nil_append, List.cons_append, List.foldl_cons]
    refine fm_back hl I0 p (by omega) _ (by unfold fillStage; rw [List.length_set]; exact xl) (fun j hj => ?_) hf
    unfold fillStage
    simp only []
    rw [getQ_set, if_neg (fun q => by omega)]
    exact x0 j (by omega)
/-- the whole -/
theorem fm_solve {loose : List Nat} (hl : loose = (List.range K).filter U) {ls : List Line} (I0 : Inv n K U F Bd [] ls) (hfin : ∀ l ∈ (elim loose ls n).2.1, 0 ≤ l.b) : ∀ l ∈ ls, Sat n l (getQ ((elim loose ls n).1.reverse.foldl fillStage (List.replicate n 0))) := by
  obtain ⟨P, h1, h2, h3, h4⟩ := elim_inv n K U F Bd hl I0 n (Nat.le_refl _)
  refine fm_back n K U F Bd hl I0 n (Nat.le_refl _) _ (List.length_replicate ..) (fun j _ => getQ_rep n j) fun l hm => ?_
  unfold Sat
  rw [S_zero_of fun j _ => by rw [getQ_rep]; grind]
  exact hfin l hm
end
end Hq
end
section
set_option linter.all false
set_option maxHeartbeats 1000000
/-! Gauss -/
namespace Hq
def Eqn (n : Nat) (l : Line) (x : Nat → Rat) : Prop := S n (fun j => getQ l.f j * x j) = l.b
def Hom (n : Nat) (l : Line) (x : Nat → Rat) : Prop := S n (fun j => getQ l.f j * x j) = 0
theorem wo_f {n k p : Nat} {e l : Line} (he : Shp n k e) (hl : Shp n k l) {j : Nat} (hj : j < n) : getQ (withoutL p e l).f j = getQ l.f j + (if getQ l.f p = 0 then 0 else (0 - getQ l.f p) / getQ e.f p * getQ e.f j) := by
  unfold withoutL
  split
  · grind
  · unfold addedL scaledL
    simp only []
    rw [getQ_zip _ _ _ _ (by rw [hl.1]; exact hj) (by rw [List.length_map, he.1]; exact hj), getQ_map _ _ _ (by rw [he.1]; exact hj)]
theorem wo_b (p : Nat) (e l : Line) : (withoutL p e l).b = l.b + (if getQ l.f p = 0 then 0 else (0 - getQ l.f p) / getQ e.f p * e.b) := by
  unfold withoutL
  split
  · grind
  · rfl
theorem wo_shp {n k p : Nat} {e l : Line} (he : Shp n k e) (hl : Shp n k l) : Shp n k (withoutL p e l) := by
  unfold withoutL
  split
  · exact hl
  · unfold Shp addedL scaledL
    simp [he.1, he.2, hl.1, hl.2]
/-- what withoutL adds -/
def woC (p : Nat) (e l : Line) : Rat := if getQ l.f p = 0 then 0 else (0 - getQ l.f p) / getQ e.f p
theorem wo_dot {n k p : Nat} {e l : Line} (he : Shp n k e) (hl : Shp n k l) (x : Nat → Rat) : S n (fun j => getQ (withoutL p e l).f j * x j) = S n (fun j => getQ l.f j * x j) + woC p e l * S n (fun j => getQ e.f j * x j) := by
  rw [← S_mul, ← S_add]
  refine S_congr fun j hj => ?_
  rw [wo_f he hl hj]
  unfold woC
  split <;> grind
theorem wo_b2 (p : Nat) (e l : Line) : (withoutL p e l).b = l.b + woC p e l * e.b := by
  rw [wo_b]
  unfold woC
  split <;> grind
theorem wo_eqn {n k p : Nat} {e l : Line} (he : Shp n k e) (hl : Shp n k l) {x : Nat → Rat} (h : Eqn n e x) : Eqn n (withoutL p e l) x ↔ Eqn n l x := by
  unfold Eqn at *
  rw [wo_dot he hl, wo_b2, h]
  constructor
  · intro; grind
  · intro; grind
theorem wo_hom {n k p : Nat} {e l : Line} (he : Shp n k e) (hl : Shp n k l) {x : Nat → Rat} (h : Hom n e x) : Hom n (withoutL p e l) x ↔ Hom n l x := by
  unfold Hom at *
  rw [wo_dot he hl, h]
  constructor
  · intro; grind
  · intro; grind
theorem wo_zero {n k p : Nat} {e l : Line} (he : Shp n k e) (hl : Shp n k l) (hp : p < n) (h0 : getQ e.f p ≠ 0) : getQ (withoutL p e l).f p = 0 := by
  rw [wo_f he hl hp]
  split <;> grind
theorem wo_keep {n k p q : Nat} {e l : Line} (he : Shp n k e) (hl : Shp n k l) (hq : q < n) (h1 : getQ e.f q = 0) (h2 : getQ l.f q = 0) : getQ (withoutL p e l).f q = 0 := by
  rw [wo_f he hl hq, h1, h2]
  split <;> grind
theorem first_none {n : Nat} {l : Line} (h : firstPlace n l = none) : ∀ j, j < n → getQ l.f j = 0 := fun j hj => by
  unfold firstPlace at h
  rw [List.find?_eq_none] at h
  have := h j (List.mem_range.mpr hj)
  simpa using this
theorem first_some {n p : Nat} {l : Line} (h : firstPlace n l = some p) : p < n ∧ getQ l.f p ≠ 0 := by
  unfold firstPlace at h
  have h1 := List.find?_some h
  have h2 := List.mem_of_find?_eq_some h
  exact ⟨List.mem_range.mp h2, of_decide_eq_true h1⟩
theorem gs_nil (n : Nat) (os : List Line) : gauss n [] os = ([], [], os) := by rw [gauss]
theorem gs_none {n : Nat} {e : Line} {rest os : List Line} (h : firstPlace n e = none) : gauss n (e :: rest) os = ((gauss n rest os).1, e :: (gauss n rest os).2.1, (gauss n rest os).2.2) := by
  rw [gauss]; simp [h]
theorem gs_some {n p : Nat} {e : Line} {rest os : List Line} (h : firstPlace n e = some p) : gauss n (e :: rest) os = ((p, e) :: (gauss n (rest.map (withoutL p e)) (os.map (withoutL p e))).1, (gauss n (rest.map (withoutL p e)) (os.map (withoutL p e))).2.1, (gauss n (rest.map (withoutL p e)) (os.map (withoutL p e))).2.2) := by
  rw [gauss]; simp [h]
/-- all that is wanted of it -/
structure GFacts (n k : Nat) (es : List Line) (Q : List Nat) (so : List (Nat × Line)) (le : List Line) : Prop where
  shp : ∀ s ∈ so, Shp n k s.2 ∧ s.1 < n ∧ getQ s.2.f s.1 ≠ 0 ∧ s.1 ∉ Q ∧ ∀ q ∈ Q, getQ s.2.f q = 0
  nd : (so.map (·.1)).Nodup
  tri : so.Pairwise fun a b => getQ b.2.f a.1 = 0
  left : ∀ l ∈ le, ∀ j, j < n → getQ l.f j = 0
  eqn : ∀ x, (∀ l ∈ es, Eqn n l x) ↔ (∀ s ∈ so, Eqn n s.2 x) ∧ ∀ l ∈ le, Eqn n l x
  hom : ∀ x, (∀ s ∈ so, Hom n s.2 x) → ∀ l ∈ es, Hom n l x
  len : so.length + le.length = es.length
theorem gauss_facts (n k : Nat) : ∀ (c : Nat) (es : List Line) (Q : List Nat), es.length = c → (∀ l ∈ es, Shp n k l) → (∀ q ∈ Q, q < n) → (∀ l ∈ es, ∀ q ∈ Q, getQ l.f q = 0) → GFacts n k es Q (gauss n es []).1 (gauss n es []).2.1
  | 0, es, Q, hc, hs, hQ, hz => by
    have := List.length_eq_zero_iff.mp hc
    subst this
    rw [gs_nil]
    exact ⟨fun s hs => (by cases hs), List.nodup_nil, List.Pairwise.nil, fun l hl => (by cases hl), fun x => ⟨fun _ => ⟨fun s hs => (by cases hs), fun l hl => (by cases hl)⟩, fun _ l hl => (by cases hl)⟩, fun x _ l hl => (by cases hl), rfl⟩
  | c + 1, es, Q, hc, hs, hQ, hz => by
    cases es with
    | nil => cases hc
    | cons e rest =>
      have hc' : rest.length = c := by simpa using hc
      have he := hs e List.mem_cons_self
      have hrs : ∀ l ∈ rest, Shp n k l := fun l hl => hs l (List.mem_cons_of_mem _ hl)
      cases hf : firstPlace n e with
      | none =>
        rw [gs_none hf]
        have G := gauss_facts n k c rest Q hc' hrs hQ fun l hl => hz l (List.mem_cons_of_mem _ hl)
        have e0 := first_none hf
        refine ⟨G.shp, G.nd, G.tri, fun l hl => ?_, fun x => ?_, fun x hx l hl => ?_, ?_⟩
        · rcases List.mem_cons.mp hl with q | q
          · rw [q]; exact e0
          · exact G.left l q
        · constructor
          · intro h
            obtain ⟨g1, g2⟩ := (G.eqn x).mp fun l hl => h l (List.mem_cons_of_mem _ hl)
            refine ⟨g1, fun l hl => ?_⟩
            rcases List.mem_cons.mp hl with q | q
            · rw [q]; exact h e List.mem_cons_self
            · exact g2 l q
          · rintro ⟨h1, h2⟩ l hl
            rcases List.mem_cons.mp hl with q | q
            · rw [q]; exact h2 e List.mem_cons_self
            · exact (G.eqn x).mpr ⟨h1, fun l hl => h2 l (List.mem_cons_of_mem _ hl)⟩ l q
        · rcases List.mem_cons.mp hl with q | q
          · rw [q]
            unfold Hom
            exact S_zero_of fun j hj => by rw [e0 j hj]; grind
          · exact G.hom x hx l q
        · have := G.len
          simp only [List.length_cons]
          omega
      | some p =>
        obtain ⟨hp, hp0⟩ := first_some hf
        have hpQ : p ∉ Q := fun q => hp0 (hz e List.mem_cons_self p q)
        rw [gs_some hf]
        have hs' : ∀ l ∈ rest.map (withoutL p e), Shp n k l := fun l hl => by
          obtain ⟨l', h', rfl⟩ := List.mem_map.mp hl
          exact wo_shp he (hrs l' h')
        have G := gauss_facts n k c (rest.map (withoutL p e)) (p :: Q) (by rw [List.length_map]; exact hc') hs' (fun q hq => by
          rcases List.mem_cons.mp hq with z | z
          · rw [z]; exact hp
          · exact hQ q z) fun l hl q hq => by
            obtain ⟨l', h', rfl⟩ := List.mem_map.mp hl
            rcases List.mem_cons.mp hq with z | z
            · rw [z]; exact wo_zero he (hrs l' h') hp hp0
            · exact wo_keep he (hrs l' h') (hQ q z) (hz e List.mem_cons_self q z) (hz l' (List.mem_cons_of_mem _ h') q z)
        simp only [List.map_nil]
        refine ⟨fun s hs => ?_, ?_, ?_, G.left, fun x => ?_, fun x hx l hl => ?_, ?_⟩
        · rcases List.mem_cons.mp hs with q | q
          · rw [q]
            exact ⟨he, hp, hp0, hpQ, hz e List.mem_cons_self⟩
          · obtain ⟨a, b, c, d, f⟩ := G.shp s q
            exact ⟨a, b, c, fun z => d (List.mem_cons_of_mem _ z), fun q hq => f q (List.mem_cons_of_mem _ hq)⟩
        · rw [List.map_cons, List.nodup_cons]
          refine ⟨fun z => ?_, G.nd⟩
          obtain ⟨s, h1, h2⟩ := List.mem_map.mp z
          obtain ⟨_, _, _, d, _⟩ := G.shp s h1
          exact d (by rw [h2]; exact List.mem_cons_self)
        · refine List.Pairwise.cons (fun s hs => ?_) G.tri
          obtain ⟨_, _, _, _, f⟩ := G.shp s hs
          exact f p List.mem_cons_self
        · constructor
          · intro h
            have h0 := h e List.mem_cons_self
            obtain ⟨g1, g2⟩ := (G.eqn x).mp fun l hl => by
              obtain ⟨l', h', rfl⟩ := List.mem_map.mp hl
              exact (wo_eqn he (hrs l' h') h0).mpr (h l' (List.mem_cons_of_mem _ h'))
            refine ⟨fun s hs => ?_, g2⟩
            rcases List.mem_cons.mp hs with q | q
            · rw [q]; exact h0
            · exact g1 s q
          · rintro ⟨h1, h2⟩ l hl
            have h0 : Eqn n e x := h1 (p, e) List.mem_cons_self
            rcases List.mem_cons.mp hl with q | q
            · rw [q]; exact h0
            · exact (wo_eqn he (hrs l q) h0).mp ((G.eqn x).mpr ⟨fun s hs => h1 s (List.mem_cons_of_mem _ hs), h2⟩ _ (List.mem_map.mpr ⟨l, q, rfl⟩))
        · have h0 : Hom n e x := hx (p, e) List.mem_cons_self
          rcases List.mem_cons.mp hl with q | q
          · rw [q]; exact h0
          · exact (wo_hom he (hrs l q) h0).mp (G.hom x (fun s hs => hx s (List.mem_cons_of_mem _ hs)) _ (List.mem_map.mpr ⟨l, q, rfl⟩))
        · have := G.len
          rw [List.length_map] at this
          simp only [List.length_cons]
          omega
/-- too few pivots: something is free -/
theorem gauss_free {n k : Nat} {es : List Line} {so : List (Nat × Line)} {le : List Line} {Q : List Nat} (G : GFacts n k es Q so le) (h : so.length < n) : ∃ w : Nat → Rat, (∃ i, i < n ∧ w i ≠ 0) ∧ (∀ i, n ≤ i → w i = 0) ∧ ∀ l ∈ es, Hom n l w := by
  obtain ⟨w, h1, h2, h3⟩ := homSol (so.map fun s => getQ s.2.f) n (fun i => decide (i < n)) (fun i hi => of_decide_eq_true hi) (by
    rw [List.length_map]
    have : (List.range n).filter (fun i => decide (i < n)) = List.range n := List.filter_eq_self.mpr fun i hi => decide_eq_true (List.mem_range.mp hi)
    rw [this, List.length_range]; exact h)
  exact ⟨w, h2, fun i hi => h1 i (decide_eq_false (by omega)), G.hom w fun s hs => h3 _ (List.mem_map.mpr ⟨s, hs, rfl⟩)⟩
/-- the pivots are filled in from behind: any solution is met where all places are pivots -/
theorem fill_meets {n k : Nat} (y : Nat → Rat) : ∀ (so : List (Nat × Line)), (∀ s ∈ so, Shp n k s.2 ∧ s.1 < n ∧ getQ s.2.f s.1 ≠ 0) → so.Pairwise (fun a b => getQ b.2.f a.1 = 0) → (so.map (·.1)).Nodup → (∀ s ∈ so, Eqn n s.2 y) →
    (∀ s ∈ so, ∀ j, j < n → j ∉ so.map (·.1) → getQ s.2.f j = 0) → ∀ x : List Rat, x.length = n →
    (so.reverse.foldl fillEq x).length = n ∧ (∀ s ∈ so, getQ (so.reverse.foldl fillEq x) s.1 = y s.1) ∧ ∀ j, j ∉ so.map (·.1) → getQ (so.reverse.foldl fillEq x) j = getQ x j
  | [], _, _, _, _, _, x, hx => ⟨hx, fun s hs => (by cases hs), fun j _ => rfl⟩
  | s :: so, hs, tri, nd, hy, hz, x, hx => by
    rw [List.pairwise_cons] at tri
    rw [List.map_cons, List.nodup_cons] at nd
    obtain ⟨i1, i2, i3⟩ := fill_meets (k := k) y so (fun t ht => hs t (List.mem_cons_of_mem _ ht)) tri.2 nd.2 (fun t ht => hy t (List.mem_cons_of_mem _ ht)) (fun t ht j hj hn => by
      by_cases e : j = s.1
      · rw [e]; exact tri.1 t ht
      · exact hz t (List.mem_cons_of_mem _ ht) j hj (by
          rw [List.map_cons, List.mem_cons]
          rintro (q | q)
          · exact e q
          · exact hn q)) x hx
    rw [List.reverse_cons, List.foldl_append]
    simp only [List.foldl_cons, List.foldl_nil]
    generalize so.reverse.foldl fillEq x = z at i1 i2 i3
    obtain ⟨s1, s2, s3⟩ := hs s List.mem_cons_self
    have hval : (s.2.b - dotQ s.2.f (z.set s.1 0)) / getQ s.2.f s.1 = y s.1 := by
      rw [dot_S (n := n) (.inl (by rw [s1.1]; exact Nat.le_refl _))]
      have he := hy s List.mem_cons_self
      unfold Eqn at he
      rw [S_split s2] at he
      have : S n (fun i => getQ s.2.f i * getQ (z.set s.1 0) i) = S n (fun i => if i = s.1 then 0 else getQ s.2.f i * y i) := S_congr fun j hj => by
        rw [getQ_set]
        by_cases e : s.1 = j
        · rw [if_pos ⟨e, by omega⟩, if_pos e.symm]; grind
        · rw [if_neg (fun q => e q.1), if_neg (fun q => e q.symm)]
          by_cases hm : j ∈ so.map (·.1)
          · obtain ⟨t, ht, rfl⟩ := List.mem_map.mp hm
            rw [i2 t ht]
          · rw [hz s List.mem_cons_self j hj (by
              rw [List.map_cons, List.mem_cons]
              rintro (q | q)
              · exact e q.symm
              · exact hm q)]
            grind
      rw [this]
      generalize S n (fun i => if i = s.1 then 0 else getQ s.2.f i * y i) = a at he
      grind
    have hlen : (fillEq z s).length = n := by unfold fillEq; simp [i1]
    have hget : ∀ j, getQ (fillEq z s) j = if s.1 = j then y s.1 else getQ z j := fun j => by
      unfold fillEq
      rw [getQ_set, getQ_set, hval]
      by_cases e : s.1 = j
      · rw [if_pos ⟨e, by rw [List.length_set]; omega⟩, if_pos e]
      · rw [if_neg (fun q => e q.1), if_neg (fun q => e q.1), if_neg e]
    refine ⟨hlen, fun t ht => ?_, fun j hj => ?_⟩
    · rw [hget]
      rcases List.mem_cons.mp ht with q | q
      · rw [q, if_pos rfl]
      · rw [if_neg (fun e => nd.1 (by rw [e]; exact List.mem_map.mpr ⟨t, q, rfl⟩))]
        exact i2 t q
    · rw [List.map_cons, List.mem_cons, not_or] at hj
      rw [hget, if_neg (fun q => hj.1 q.symm)]
      exact i3 j hj.2
/-- so many distinct places below n: all -/
theorem all_places {n : Nat} {l : List Nat} (nd : l.Nodup) (hl : ∀ a ∈ l, a < n) (hn : l.length = n) : ∀ j, j < n → j ∈ l := by
  intro j hj
  have h1 : l.Sublist l := List.Sublist.refl l
  by_cases h : j ∈ l
  · exact h
  · exfalso
    have nd2 : (j :: l).Nodup := List.nodup_cons.mpr ⟨h, nd⟩
    have sub : ∀ a ∈ j :: l, a ∈ List.range n := fun a ha => by
      rcases List.mem_cons.mp ha with q | q
      · rw [q]; exact List.mem_range.mpr hj
      · exact List.mem_range.mpr (hl a q)
    have := List.Nodup.length_le_of_subset nd2 sub
    rw [List.length_cons, List.length_range] at this
    omega
theorem gauss_unique {n k : Nat} {es : List Line} {so : List (Nat × Line)} {le : List Line} (G : GFacts n k es [] so le) (h : ¬ so.length < n) {y : Nat → Rat} (hy : ∀ l ∈ es, Eqn n l y) : so.length = n ∧ ∀ j, j < n → getQ (filledIn n so []) j = y j := by
  have hlt : ∀ a ∈ so.map (·.1), a < n := fun a ha => by
    obtain ⟨s, hs, rfl⟩ := List.mem_map.mp ha
    exact (G.shp s hs).2.1
  have hle : so.length ≤ n := by
    have sub : ∀ a ∈ so.map (·.1), a ∈ List.range n := fun a ha => List.mem_range.mpr (hlt a ha)
    have := List.Nodup.length_le_of_subset G.nd sub
    rwa [List.length_map, List.length_range] at this
  have hn : so.length = n := by omega
  have hall := all_places G.nd hlt (by rw [List.length_map]; exact hn)
  obtain ⟨g1, _⟩ := (G.eqn y).mp hy
  obtain ⟨f1, f2, _⟩ := fill_meets (k := k) y so (fun s hs => ⟨(G.shp s hs).1, (G.shp s hs).2.1, (G.shp s hs).2.2.1⟩) G.tri G.nd g1 (fun s _ j hj hm => absurd (hall j hj) hm) (List.replicate n 0) (List.length_replicate ..)
  refine ⟨hn, fun j hj => ?_⟩
  obtain ⟨s, hs, rfl⟩ := List.mem_map.mp (hall j hj)
  exact f2 s hs
end Hq
end
section
set_option linter.all false
set_option maxHeartbeats 1000000
/-! from any weights to extreme ones -/
namespace Hq
theorem quot_sign {a b : Rat} (h : a * b < 0) : 0 ≤ (-a) / b := by
  rcases (by grind : b < 0 ∨ b = 0 ∨ 0 < b) with q | q | q
  · have ib := Rat.inv_pos.mpr (show 0 < -b by grind)
    have ha : 0 ≤ a := by
      by_cases z : 0 ≤ a
      · exact z
      · have := Rat.mul_pos (show 0 < -a by grind) (show 0 < -b by grind)
        grind
    have e : (-a) / b = a * (-b)⁻¹ := by grind
    rw [e]
    exact Rat.mul_nonneg ha (by grind)
  · rw [q] at h; grind
  · have ib := Rat.inv_pos.mpr q
    have ha : 0 ≤ -a := by
      by_cases z : 0 ≤ -a
      · exact z
      · have := Rat.mul_pos (show 0 < a by grind) q
        grind
    rw [Rat.div_def]
    exact Rat.mul_nonneg ha (by grind)
section
variable (nc na : Nat) (G : Nat → Nat → Rat) (rule : Nat → Rule)
def meanF (x : Nat → Rat) (a : Nat) : Rat := S nc fun c => x c * G c a
structure FW (x : Nat → Rat) : Prop where
  pos : ∀ c, c < nc → 0 ≤ x c
  sum : S nc x = 1
  mean : ∀ a, a < na → isMean (rule a) (meanF nc G x a) = true
/-- a direction that keeps what is tight -/
structure Kern (x W : Nat → Rat) : Prop where
  sup : ∀ c, c < nc → x c = 0 → W c = 0
  sum : S nc W = 0
  any : ∀ a, a < na → rule a = .any → meanF nc G W a = 0
  tight : ∀ a, a < na → (rule a = .long ∨ rule a = .short) → meanF nc G x a = 0 → meanF nc G W a = 0
  ne : ∃ c, c < nc ∧ W c ≠ 0
theorem mean_lin (x W : Nat → Rat) (t : Rat) (a : Nat) : meanF nc G (fun c => x c + t * W c) a = meanF nc G x a + t * meanF nc G W a := by
  unfold meanF
  rw [← S_mul, ← S_add]
  exact S_congr fun c _ => by grind
def loosB (x : Nat → Rat) (a : Nat) : Bool := (decide (rule a = .long) || decide (rule a = .short)) && decide (meanF nc G x a ≠ 0)
def meas (x : Nat → Rat) : Nat := ((List.range nc).filter fun c => decide (x c ≠ 0)).length + ((List.range na).filter (loosB nc G rule x)).length
theorem kern_neg {x W : Nat → Rat} (h : Kern nc na G rule x W) : Kern nc na G rule x (fun c => -(W c)) := by
  have e : ∀ a, meanF nc G (fun c => -(W c)) a = -(meanF nc G W a) := fun a => by
    have := mean_lin nc G (fun _ => 0) W (-1) a
    have z : meanF nc G (fun _ => 0) a = 0 := S_zero_of fun c _ => by grind
    rw [z] at this
    have e2 : meanF nc G (fun c => 0 + -1 * W c) a = meanF nc G (fun c => -(W c)) a := S_congr fun c _ => by grind
    rw [e2] at this
    rw [this]; grind
  refine ⟨fun c hc hx => by rw [h.sup c hc hx]; grind, ?_, fun a ha hr => by rw [e, h.any a ha hr]; grind, fun a ha hr ht => by rw [e, h.tight a ha hr ht]; grind, ?_⟩
  · have : S nc (fun c => -(W c)) = (-1) * S nc W := by rw [← S_mul]; exact S_congr fun c _ => by grind
    rw [this, h.sum]; grind
  · obtain ⟨c, hc, hw⟩ := h.ne
    exact ⟨c, hc, by grind⟩
/-- one move along a direction that does not make the value less -/
theorem move {x W : Nat → Rat} (hx : FW nc na G rule x) (hW : Kern nc na G rule x W) (v : Nat → Rat) (hv : 0 ≤ S nc fun c => W c * v c) :
    ∃ y, FW nc na G rule y ∧ meas nc na G rule y < meas nc na G rule x ∧ S nc (fun c => x c * v c) ≤ S nc (fun c => y c * v c) := by
  let d : Nat → Rat := meanF nc G W
  let μ : Nat → Rat := meanF nc G x
  let p : Nat → Prop := fun i => (i < nc ∧ W i < 0) ∨ (nc ≤ i ∧ (rule (i - nc) = .long ∨ rule (i - nc) = .short) ∧ μ (i - nc) * d (i - nc) < 0)
  let g : Nat → Rat := fun i => if i < nc then x i / (-(W i)) else (-(μ (i - nc))) / d (i - nc)
  have hneg : ∃ c, c < nc ∧ W c < 0 := by
    by_cases h : ∃ c, c < nc ∧ W c < 0
    · exact h
    · exfalso
      have h0 : ∀ c, c < nc → 0 ≤ W c := fun c hc => by
        have : ¬ W c < 0 := fun z => h ⟨c, hc, z⟩
        grind
      obtain ⟨c, hc, hw⟩ := hW.ne
      have h1 := S_pos_of h0 hc (by have := h0 c hc; grind)
      rw [hW.sum] at h1
      grind
  obtain ⟨c0, hc0, hw0⟩ := hneg
  obtain ⟨i0, h1, h2, h3⟩ := least_at g p (nc + na) ⟨c0, by omega, .inl ⟨hc0, hw0⟩⟩
  have hgpos : ∀ i, i < nc + na → p i → 0 ≤ g i := fun i hi hp => by
    rcases hp with ⟨a, b⟩ | ⟨a, _, b⟩
    · simp only [g, if_pos a]
      rw [Rat.div_def]
      exact Rat.mul_nonneg (hx.pos i a) (by have := Rat.inv_pos.mpr (show 0 < -(W i) by grind); grind)
    · simp only [g, if_neg (show ¬ i < nc by omega)]
      exact quot_sign b
  have t0 := hgpos i0 h1 h2
  generalize ht : g i0 = t at h3 t0
  have hpos : ∀ c, c < nc → 0 ≤ x c + t * W c := fun c hc => by
    by_cases q : W c < 0
    · have h4 := h3 c (by omega) (.inl ⟨hc, q⟩)
      simp only [g, if_pos hc] at h4
      have h5 := quot_hi (a := 0) (show 0 < -(W c) by grind) (show t ≤ (x c - 0) / (-(W c)) by rw [show x c - 0 = x c by grind]; exact h4)
      grind
    · have := Rat.mul_nonneg t0 (show 0 ≤ W c by grind)
      have := hx.pos c hc
      grind
  have hmean : ∀ a, meanF nc G (fun c => x c + t * W c) a = μ a + t * d a := fun a => mean_lin nc G x W t a
  have hbnd : ∀ a, a < na → (rule a = .long ∨ rule a = .short) → μ a * d a < 0 → t ≤ (-(μ a)) / d a := fun a ha hr hm => by
    have h4 := h3 (nc + a) (by omega) (.inr ⟨by omega, by rw [Nat.add_sub_cancel_left]; exact ⟨hr, hm⟩⟩)
    simp only [g, if_neg (show ¬ nc + a < nc by omega), Nat.add_sub_cancel_left] at h4
    exact h4
  refine ⟨fun c => x c + t * W c, ⟨hpos, ?_, fun a ha => ?_⟩, ?_, ?_⟩
  · rw [S_add, S_mul, hW.sum, hx.sum]; grind
  · rw [hmean]
    have hm := hx.mean a ha
    cases hr : rule a with
    | any =>
      rw [hr] at hm
      have h5 : μ a = 0 := of_decide_eq_true hm
      have h6 : d a = 0 := hW.any a ha hr
      rw [h5, h6]
      exact decide_eq_true (by grind)
    | long =>
      rw [hr] at hm
      have h5 : μ a ≤ 0 := of_decide_eq_true hm
      refine decide_eq_true ?_
      by_cases q : μ a = 0
      · have h6 : d a = 0 := hW.tight a ha (.inl hr) q
        rw [q, h6]; grind
      · by_cases q2 : 0 < d a
        · have h7 := hbnd a ha (.inl hr) (by
            have := Rat.mul_pos (show 0 < -(μ a) by grind) q2
            grind)
          have h8 := quot_hi (a := μ a) (d := 0) q2 (by rw [show (0 : Rat) - μ a = -(μ a) by grind]; exact h7)
          grind
        · have := Rat.mul_nonneg t0 (show 0 ≤ -(d a) by grind)
          grind
    | short =>
      rw [hr] at hm
      have h5 : 0 ≤ μ a := of_decide_eq_true hm
      refine decide_eq_true ?_
      by_cases q : μ a = 0
      · have h6 : d a = 0 := hW.tight a ha (.inr hr) q
        rw [q, h6]; grind
      · by_cases q2 : d a < 0
        · have h7 := hbnd a ha (.inr hr) (by
            have := Rat.mul_pos (show 0 < μ a by grind) (show 0 < -(d a) by grind)
            grind)
          have e : (-(μ a)) / d a = μ a / (-(d a)) := by grind
          rw [e] at h7
          have h8 := quot_hi (a := -(μ a)) (d := 0) (show 0 < -(d a) by grind) (by rw [show (0 : Rat) - -(μ a) = μ a by grind]; exact h7)
          grind
        · have := Rat.mul_nonneg t0 (show 0 ≤ d a by grind)
          grind
    | none_ => rfl
  · -- less is loose
    have sub1 : ∀ c ∈ List.range nc, decide (x c + t * W c ≠ 0) = true → decide (x c ≠ 0) = true := fun c hc h => by
      refine decide_eq_true fun z => (of_decide_eq_true h) ?_
      rw [z, hW.sup c (List.mem_range.mp hc) z]; grind
    have sub2 : ∀ a ∈ List.range na, loosB nc G rule (fun c => x c + t * W c) a = true → loosB nc G rule x a = true := fun a ha h => by
      unfold loosB at h ⊢
      rw [Bool.and_eq_true] at h ⊢
      refine ⟨h.1, decide_eq_true fun z => (of_decide_eq_true h.2) ?_⟩
      have hr : rule a = .long ∨ rule a = .short := by
        rcases Bool.or_eq_true_iff.mp h.1 with q | q
        · exact .inl (of_decide_eq_true q)
        · exact .inr (of_decide_eq_true q)
      have hd : d a = 0 := hW.tight a (List.mem_range.mp ha) hr z
      rw [hmean]
      have z' : μ a = 0 := z
      rw [z', hd]; grind
    have l1 := filt_le _ _ (List.range nc) sub1
    have l2 := filt_le _ _ (List.range na) sub2
    unfold meas
    rcases h2 with ⟨a, b⟩ | ⟨a, hr, b⟩
    · have := filt_lt _ _ (List.range nc) sub1 ⟨i0, List.mem_range.mpr a, decide_eq_true fun z => by have := hW.sup i0 a z; grind, decide_eq_false fun z => z (by
        have : x i0 / (-(W i0)) = t := by rw [← ht]; simp only [g, if_pos a]
        rw [← this]; grind)⟩
      exact Nat.add_lt_add_of_lt_of_le this l2
    · have ha : i0 - nc < na := by omega
      have hd0 : d (i0 - nc) ≠ 0 := fun z => by rw [z] at b; grind
      have hm0 : μ (i0 - nc) ≠ 0 := fun z => by rw [z] at b; grind
      have := filt_lt _ _ (List.range na) sub2 ⟨i0 - nc, List.mem_range.mpr ha, by
        unfold loosB
        rw [Bool.and_eq_true]
        refine ⟨?_, decide_eq_true hm0⟩
        rcases hr with q | q
        · rw [q]; rfl
        · rw [q]; rfl, by
        unfold loosB
        rw [Bool.and_eq_false_iff]
        right
        refine decide_eq_false fun z => z ?_
        rw [hmean]
        have : (-(μ (i0 - nc))) / d (i0 - nc) = t := by rw [← ht]; simp only [g, if_neg (show ¬ i0 < nc by omega)]
        rw [← this]
        generalize μ (i0 - nc) = q1 at *
        generalize d (i0 - nc) = q2 at *
        grind⟩
      exact Nat.add_lt_add_of_le_of_lt l1 this
  · have : S nc (fun c => (x c + t * W c) * v c) = S nc (fun c => x c * v c) + t * S nc (fun c => W c * v c) := by
      rw [← S_mul, ← S_add]
      exact S_congr fun c _ => by grind
    rw [this]
    have := Rat.mul_nonneg t0 hv
    grind
theorem descend (E : (Nat → Rat) → Prop) (hE : ∀ x, FW nc na G rule x → (∀ W, ¬ Kern nc na G rule x W) → E x) (v : Nat → Rat) : ∀ (k : Nat) (x : Nat → Rat), meas nc na G rule x ≤ k → FW nc na G rule x →
    ∃ y, FW nc na G rule y ∧ E y ∧ S nc (fun c => x c * v c) ≤ S nc (fun c => y c * v c) := by
  have step : ∀ x, FW nc na G rule x → (E x ∨ ∃ y, FW nc na G rule y ∧ meas nc na G rule y < meas nc na G rule x ∧ S nc (fun c => x c * v c) ≤ S nc (fun c => y c * v c)) := by
    intro x hx
    by_cases h : ∃ W, Kern nc na G rule x W
    · obtain ⟨W, hW⟩ := h
      right
      by_cases hv : 0 ≤ S nc (fun c => W c * v c)
      · exact move nc na G rule hx hW v hv
      · refine move nc na G rule hx (kern_neg nc na G rule hW) v ?_
        have : S nc (fun c => -(W c) * v c) = (-1) * S nc (fun c => W c * v c) := by
          rw [← S_mul]; exact S_congr fun c _ => by grind
        rw [this]; grind
    · exact .inl (hE x hx fun W hW => h ⟨W, hW⟩)
  intro k
  induction k with
  | zero =>
    intro x hk hx
    rcases step x hx with h | ⟨y, _, h2, _⟩
    · exact ⟨x, hx, h, by grind⟩
    · omega
  | succ k ih =>
    intro x hk hx
    rcases step x hx with h | ⟨y, h1, h2, h3⟩
    · exact ⟨x, hx, h, by grind⟩
    · obtain ⟨z, z1, z2, z3⟩ := ih y (by omega) h1
      exact ⟨z, z1, z2, by grind⟩
end
end Hq
end
section
set_option linter.all false
set_option maxHeartbeats 1000000
/-! the extreme weights of a node -/
namespace Hq
def Gm (m : Market) (k c a : Nat) : Rat := getQ ((gains m k).getD c []) a
def ruleA (m : Market) (k a : Nat) : Rule := (nodeAt m k).rules.getD a .any
theorem getQ_mapL {α : Type} (f : α → Rat) (z : α) (xs : List α) (i : Nat) (h : i < xs.length) : getQ (xs.map f) i = f (xs.getD i z) := by
  rw [getQ_lt (by simpa using h), List.getElem_map, List.getD_eq_getElem?_getD, List.getElem?_eq_getElem h]; rfl
theorem gains_len (m : Market) (k : Nat) : (gains m k).length = (kids m k).length := by unfold gains; rw [List.length_map]
theorem mean_S {m : Market} {k : Nat} {x : List Rat} (h : x.length = (kids m k).length) (a : Nat) : dotQ x (col (gains m k) a) = meanF (kids m k).length (Gm m k) (getQ x) a := by
  rw [dot_S (n := (kids m k).length) (.inl (by rw [h]; exact Nat.le_refl _))]
  unfold meanF
  refine S_congr fun c hc => ?_
  congr 1
  unfold col
  rw [getQ_mapL _ [] _ _ (by rw [gains_len]; exact hc)]
  rfl
theorem isW_iff {m : Market} {k : Nat} (hr : (nodeAt m k).rules.length = m.many) {x : List Rat} : isWeights m k x = true ↔ (kids m k).length ≠ 0 ∧ x.length = (kids m k).length ∧ FW (kids m k).length m.many (Gm m k) (ruleA m k) (getQ x) := by
  unfold isWeights
  simp only [Bool.and_eq_true, decide_eq_true_eq, Bool.not_eq_true', List.all_eq_true]
  have keep : x.length = (kids m k).length → (keepMeans m k x = true ↔ ∀ a, a < m.many → isMean (ruleA m k a) (meanF (kids m k).length (Gm m k) (getQ x) a) = true) := fun hl => by
    unfold keepMeans
    rw [List.all_eq_true]
    constructor
    · intro h a ha
      have h1 : (nodeAt m k).rules[a]? = some (ruleA m k a) := by
        unfold ruleA
        rw [List.getD_eq_getElem?_getD, List.getElem?_eq_getElem (by omega)]; rfl
      have := h (ruleA m k a, a) (List.mem_zipIdx_iff_getElem?.mpr (by simpa using h1))
      rwa [mean_S hl] at this
    · rintro h ⟨r, a⟩ hp
      have hp' : (nodeAt m k).rules[a]? = some r := by simpa using List.mem_zipIdx_iff_getElem?.mp hp
      have ha := (List.getElem?_eq_some_iff.mp hp').1
      have e : ruleA m k a = r := by
        unfold ruleA
        rw [List.getD_eq_getElem?_getD, hp']; rfl
      have := h a (by omega)
      rw [mean_S hl]
      rwa [e] at this
  constructor
  · rintro ⟨⟨⟨h1, h2⟩, h3, h4⟩, h5⟩
    refine ⟨fun q => ?_, h2, ⟨fun c hc => ?_, ?_, (keep h2).mp h5⟩⟩
    · rw [List.length_eq_zero_iff.mp q] at h1; cases h1
    · rw [getQ_lt (by omega)]; exact h4 _ (List.getElem_mem _)
    · rw [← sumQ_S (by rw [h2]; exact Nat.le_refl _)]; exact h3
  · rintro ⟨h1, h2, h3⟩
    refine ⟨⟨⟨?_, h2⟩, ?_, fun q hq => ?_⟩, (keep h2).mpr h3.mean⟩
    · cases e : kids m k with
      | nil => rw [e] at h1; exact absurd rfl h1
      | cons _ _ => rfl
    · rw [sumQ_S (by rw [h2]; exact Nat.le_refl _)]; exact h3.sum
    · obtain ⟨i, hi, rfl⟩ := List.getElem_of_mem hq
      rw [← getQ_lt hi]; exact h3.pos i (by omega)
/-! parts of a list -/
def pStep (found : List (List Nat)) (x : Nat) : List (List Nat) := found ++ found.map fun p => p ++ [x]
theorem parts_eq (t : List Nat) : partsOf t = t.foldl pStep [[]] := by
  cases t <;> rfl
theorem parts_mem (p : Nat → Bool) : ∀ (t : List Nat) (acc : List (List Nat)) (q : List Nat), q ∈ acc → q ++ t.filter p ∈ t.foldl pStep acc
  | [], acc, q, h => by simpa using h
  | x :: t, acc, q, h => by
    rw [List.foldl_cons, List.filter_cons]
    split
    · have := parts_mem p t (pStep acc x) (q ++ [x]) (List.mem_append_right _ (List.mem_map.mpr ⟨q, h, rfl⟩))
      simpa using this
    · exact parts_mem p t (pStep acc x) q (List.mem_append_left _ h)
theorem parts_filter (p : Nat → Bool) (t : List Nat) : t.filter p ∈ partsOf t := by
  rw [parts_eq]
  have := parts_mem p t [[]] [] (by simp)
  simpa using this
theorem parts_sub : ∀ (t : List Nat) (acc : List (List Nat)) (b : List Nat), (∀ q ∈ acc, q.Sublist b) → ∀ q ∈ t.foldl pStep acc, q.Sublist (b ++ t)
  | [], acc, b, h, q, hq => by simpa using h q hq
  | x :: t, acc, b, h, q, hq => by
    rw [List.foldl_cons] at hq
    have := parts_sub t (pStep acc x) (b ++ [x]) (fun z hz => by
      unfold pStep at hz
      rcases List.mem_append.mp hz with y | y
      · exact (h z y).trans (List.sublist_append_left b [x])
      · obtain ⟨z', hz', rfl⟩ := List.mem_map.mp y
        exact (h z' hz').append (List.Sublist.refl [x])) q hq
    simpa using this
theorem parts_sublist {t q : List Nat} (h : q ∈ partsOf t) : q.Sublist t := by
  rw [parts_eq] at h
  have := parts_sub t [[]] [] (fun z hz => by simp at hz; rw [hz]; exact List.Sublist.refl _) q h
  simpa using this
/-! a sum over some places -/
theorem S_filter (p : Nat → Bool) (f : Nat → Rat) : ∀ n, S ((List.range n).filter p).length (fun i => f (((List.range n).filter p).getD i 0)) = S n fun c => if p c then f c else 0
  | 0 => rfl
  | n + 1 => by
    have ih := S_filter p f n
    rw [List.range_succ, List.filter_append]
    show _ = S n (fun c => if p c = true then f c else 0) + (if p n = true then f n else 0)
    rw [← ih]
    have pre : ∀ (l r : List Nat) (i : Nat), i < l.length → (l ++ r).getD i 0 = l.getD i 0 := fun l r i hi => by
      rw [List.getD_eq_getElem?_getD, List.getD_eq_getElem?_getD, List.getElem?_append_left hi]
    cases e : p n with
    | true =>
      have e1 : [n].filter p = [n] := by simp [e]
      rw [e1, List.length_append, List.length_singleton]
      show S _ _ + f _ = _
      rw [S_congr (g := fun i => f (((List.range n).filter p).getD i 0)) fun i hi => by rw [pre _ _ _ hi], if_pos rfl]
      congr 2
      rw [List.getD_eq_getElem?_getD, List.getElem?_append_right (Nat.le_refl _)]
      simp
    | false =>
      have e1 : [n].filter p = [] := by simp [e]
      rw [e1, List.append_nil, if_neg (by simp)]; grind
/-! ascending lists -/
theorem cb_irrefl : ∀ a : List Rat, comesBefore a a = false
  | [] => rfl
  | x :: a => by unfold comesBefore; simp [cb_irrefl a]
theorem cb_trans : ∀ a b c : List Rat, comesBefore a b = true → comesBefore b c = true → comesBefore a c = true
  | [], _, _, h, _ => by simp [comesBefore] at h
  | _ :: _, [], _, h, _ => by simp [comesBefore] at h
  | _ :: _, _ :: _, [], _, h => by simp [comesBefore] at h
  | x :: a, y :: b, z :: c, h1, h2 => by
    unfold comesBefore at *
    by_cases e1 : x = y
    · subst e1
      by_cases e2 : x = z
      · subst e2
        simp at h1 h2 ⊢
        exact cb_trans a b c h1 h2
      · simp [e2] at h1 h2 ⊢
        exact h2
    · by_cases e2 : y = z
      · subst e2
        simp [e1] at h1 h2 ⊢
        exact h1
      · have h1' : x < y := by simpa [e1] using h1
        have h2' : y < z := by simpa [e2] using h2
        have h3 : x < z := by grind
        have ne : ¬ x = z := fun q => by grind
        simp [ne, h3]
theorem cb_total : ∀ a b : List Rat, a.length = b.length → a ≠ b → comesBefore a b = false → comesBefore b a = true
  | [], [], _, h, _ => absurd rfl h
  | [], _ :: _, h, _, _ => by simp at h
  | _ :: _, [], h, _, _ => by simp at h
  | x :: a, y :: b, hl, hne, h => by
    unfold comesBefore at *
    by_cases e : x = y
    · subst e
      simp at h ⊢
      exact cb_total a b (by simpa using hl) (fun q => hne (by rw [q])) h
    · have e' : ¬ y = x := fun q => e q.symm
      simp [e] at h
      have : y < x := by grind
      simp [e', this]
structure Asc (n : Nat) (ls : List (List Rat)) : Prop where
  len : ∀ l ∈ ls, l.length = n
  pw : ls.Pairwise fun a b => comesBefore a b = true
theorem asc_split {n : Nat} {y : List Rat} : ∀ {ls : List (List Rat)}, Asc n ls → ls.drop (ls.filter fun o => comesBefore o y).length = ls.filter fun o => !comesBefore o y
  | [], _ => rfl
  | a :: r, h => by
    have pw := List.pairwise_cons.mp h.pw
    have hr : Asc n r := ⟨fun l hl => h.len l (List.mem_cons_of_mem _ hl), pw.2⟩
    rw [List.filter_cons, List.filter_cons]
    cases e : comesBefore a y with
    | true =>
      rw [if_pos rfl, List.length_cons, List.drop_succ_cons, asc_split hr]
      simp
    | false =>
      have none : r.filter (fun o => comesBefore o y) = [] := by
        rw [List.filter_eq_nil_iff]
        intro b hb q
        have := cb_trans a b y (pw.1 b hb) q
        rw [e] at this; cases this
      have all : r.filter (fun o => !comesBefore o y) = r := by
        rw [List.filter_eq_self]
        intro b hb
        cases q : comesBefore b y with
        | false => rfl
        | true =>
          have := cb_trans a b y (pw.1 b hb) q
          rw [e] at this; cases this
      rw [none, all]
      simp
theorem asc_put {n : Nat} {y : List Rat} {ls : List (List Rat)} (h : Asc n ls) (hy : y.length = n) : Asc n (putIn ls y) ∧ ∀ z, z ∈ putIn ls y ↔ z ∈ ls ∨ z = y := by
  unfold putIn
  by_cases hm : y ∈ ls
  · rw [if_pos hm]
    refine ⟨h, fun z => ⟨.inl, fun q => q.elim id fun q => by rw [q]; exact hm⟩⟩
  · rw [if_neg hm]
    simp only []
    rw [asc_split h]
    have mem : ∀ z, z ∈ ls.filter (fun o => comesBefore o y) ++ [y] ++ ls.filter (fun o => !comesBefore o y) ↔ z ∈ ls ∨ z = y := fun z => by
      simp only [List.mem_append, List.mem_filter, List.mem_singleton]
      constructor
      · rintro ((q | q) | q)
        · exact .inl q.1
        · exact .inr q
        · exact .inl q.1
      · rintro (q | q)
        · cases e : comesBefore z y with
          | true => exact .inl (.inl ⟨q, rfl⟩)
          | false => exact .inr ⟨q, rfl⟩
        · exact .inl (.inr q)
    refine ⟨⟨fun l hl => ?_, ?_⟩, mem⟩
    · rcases (mem l).mp hl with q | q
      · exact h.len l q
      · rw [q]; exact hy
    · have gt : ∀ b ∈ ls.filter (fun o => !comesBefore o y), comesBefore y b = true := fun b hb => by
        obtain ⟨h1, h2⟩ := List.mem_filter.mp hb
        exact cb_total b y (by rw [h.len b h1, hy]) (fun q => hm (q ▸ h1)) (by simpa using h2)
      rw [List.append_assoc, List.pairwise_append]
      refine ⟨h.pw.filter _, ?_, fun a ha b hb => ?_⟩
      · rw [List.pairwise_append]
        refine ⟨List.pairwise_singleton _ _, h.pw.filter _, fun a ha b hb => ?_⟩
        have e : a = y := by simpa using ha
        rw [e]; exact gt b hb
      · have ha2 := (List.mem_filter.mp ha).2
        rcases List.mem_append.mp hb with q | q
        · have e : b = y := by simpa using q
          rw [e]; exact ha2
        · exact cb_trans a y b ha2 (gt b q)
end Hq
end
section
set_option linter.all false
set_option maxHeartbeats 1000000
/-! the extreme weights are enough -/
namespace Hq
theorem fold_P {α β : Type} (f : α → β → α) (P : α → Prop) (hP : ∀ F b, P F → P (f F b)) : ∀ (l : List β) (F : α), P F → P (l.foldl f F)
  | [], _, h => h
  | b :: l, F, h => fold_P f P hP l (f F b) (hP F b h)
theorem fold_keep {β : Type} (f : List (List Rat) → β → List (List Rat)) (P : List (List Rat) → Prop) (hP : ∀ F b, P F → P (f F b)) (hm : ∀ F b z, P F → z ∈ F → z ∈ f F b) : ∀ (l : List β) (F : List (List Rat)) (z : List Rat), P F → z ∈ F → z ∈ l.foldl f F
  | [], _, _, _, h => h
  | b :: l, F, z, h, hz => fold_keep f P hP hm l (f F b) z (hP F b h) (hm F b z h hz)
theorem fold_has {β : Type} (f : List (List Rat) → β → List (List Rat)) (P : List (List Rat) → Prop) (hP : ∀ F b, P F → P (f F b)) (hm : ∀ F b z, P F → z ∈ F → z ∈ f F b) {y : List Rat} {b : β} (hy : ∀ F, P F → y ∈ f F b) : ∀ (l : List β) (F : List (List Rat)), b ∈ l → P F → y ∈ l.foldl f F
  | [], _, h, _ => by cases h
  | c :: l, F, h, hF => by
    rw [List.foldl_cons]
    rcases List.mem_cons.mp h with q | q
    · rw [← q]
      exact fold_keep f P hP hm l _ y (hP F b hF) (hy F hF)
    · exact fold_has f P hP hm hy l _ q (hP F c hF)
def Good (m : Market) (k : Nat) (F : List (List Rat)) : Prop := Asc (kids m k).length F ∧ ∀ z ∈ F, isWeights m k z = true
theorem isW_len {m : Market} {k : Nat} {x : List Rat} (h : isWeights m k x = true) : x.length = (kids m k).length := by
  unfold isWeights at h
  simp only [Bool.and_eq_true, decide_eq_true_eq] at h
  exact h.1.1.2
theorem try_good {m : Market} {k : Nat} {s : List Nat} (F : List (List Rat)) (more : List Nat) (h : Good m k F) : Good m k (tryPut m k F s more) := by
  unfold tryPut
  split
  · split
    · exact h
    · rename_i x hx
      split
      · rename_i hw
        obtain ⟨a, b⟩ := asc_put h.1 (isW_len hw)
        exact ⟨a, fun z hz => ((b z).mp hz).elim (h.2 z) fun q => by rw [q]; exact hw⟩
      · exact h
  · exact h
theorem try_mem {m : Market} {k : Nat} {s : List Nat} (F : List (List Rat)) (more : List Nat) (z : List Rat) (h : Good m k F) (hz : z ∈ F) : z ∈ tryPut m k F s more := by
  unfold tryPut
  split
  · split
    · exact hz
    · rename_i x hx
      split
      · rename_i hw
        obtain ⟨a, b⟩ := asc_put h.1 (isW_len hw)
        exact (b z).mpr (.inl hz)
      · exact hz
  · exact hz
theorem ext_good (m : Market) (k : Nat) : Good m k (extremes m k) :=
  fold_P _ (Good m k) (fun F s h => fold_P _ (Good m k) (fun F more h => try_good F more h) _ F h) _ [] ⟨⟨fun l hl => (by cases hl), List.Pairwise.nil⟩, fun z hz => (by cases hz)⟩
theorem ext_has {m : Market} {k : Nat} {s more : List Nat} {x : List Rat} (hs : s ∈ partsOf (List.range (kids m k).length)) (hm : more ∈ partsOf (sometimes m k)) (h0 : 0 < s.length) (h1 : s.length ≤ 1 + (always m k).length + more.length) (hx : onlyNumbers m k s (always m k ++ more) = some x) (hw : isWeights m k x = true) : x ∈ extremes m k := by
  refine fold_has _ (Good m k) (fun F s h => fold_P _ (Good m k) (fun F more h => try_good F more h) _ F h) (fun F s z h hz => fold_keep _ (Good m k) (fun F more h => try_good F more h) (fun F more z h hz => try_mem F more z h hz) _ F z h hz) (b := s) (fun F hF => ?_) _ [] hs ⟨⟨fun l hl => (by cases hl), List.Pairwise.nil⟩, fun z hz => (by cases hz)⟩
  refine fold_has _ (Good m k) (fun F more h => try_good F more h) (fun F more z h hz => try_mem F more z h hz) (b := more) (fun F hF => ?_) _ F hm hF
  unfold tryPut
  rw [if_pos (by simp [h0, h1]), hx]
  simp only [hw, if_true]
  exact ((asc_put hF.1 (isW_len hw)).2 x).mpr (.inr rfl)
/-! the numbers of a support -/
theorem spread_get (s : List Nat) (f : List Rat) (n : Nat) (nd : s.Nodup) (hs : ∀ c ∈ s, c < n) : (spread n s f).length = n ∧ (∀ i, i < s.length → getQ (spread n s f) (s.getD i 0) = getQ f i) ∧ ∀ c, c ∉ s → getQ (spread n s f) c = 0 := by
  unfold spread
  have gen : ∀ (l : List (Nat × Nat)) (acc : List Rat), acc.length = n → (l.map (·.1)).Nodup → (∀ p ∈ l, p.1 < n) →
      (l.foldl (fun acc p => acc.set p.1 (getQ f p.2)) acc).length = n ∧ (∀ p ∈ l, getQ (l.foldl (fun acc p => acc.set p.1 (getQ f p.2)) acc) p.1 = getQ f p.2) ∧ ∀ c, c ∉ l.map (·.1) → getQ (l.foldl (fun acc p => acc.set p.1 (getQ f p.2)) acc) c = getQ acc c := by
    intro l
    induction l with
    | nil => exact fun acc h _ _ => ⟨h, fun p hp => (by cases hp), fun c _ => rfl⟩
    | cons p l ih =>
      intro acc h nd hl
      rw [List.map_cons, List.nodup_cons] at nd
      obtain ⟨i1, i2, i3⟩ := ih (acc.set p.1 (getQ f p.2)) (by rw [List.length_set]; exact h) nd.2 fun q hq => hl q (List.mem_cons_of_mem _ hq)
      rw [List.foldl_cons]
      refine ⟨i1, fun q hq => ?_, fun c hc => ?_⟩
      · rcases List.mem_cons.mp hq with z | z
        · rw [z, i3 p.1 nd.1, getQ_set, if_pos ⟨rfl, by rw [h]; exact hl p List.mem_cons_self⟩]
        · exact i2 q z
      · rw [List.map_cons, List.mem_cons, not_or] at hc
        rw [i3 c hc.2, getQ_set, if_neg (fun z => hc.1 z.1.symm)]
  have emap : s.zipIdx.map (·.1) = s := by simp
  obtain ⟨g1, g2, g3⟩ := gen s.zipIdx (List.replicate n 0) (List.length_replicate ..) (by rw [emap]; exact nd) (fun p hp => hs p.1 (by
    have : p.1 ∈ s.zipIdx.map (·.1) := List.mem_map.mpr ⟨p, hp, rfl⟩
    rwa [emap] at this))
  refine ⟨g1, fun i hi => ?_, fun c hc => ?_⟩
  · have hp : (s.getD i 0, i) ∈ s.zipIdx := List.mem_zipIdx_iff_getElem?.mpr (by
      rw [List.getD_eq_getElem?_getD, List.getElem?_eq_getElem hi]; rfl)
    exact g2 _ hp
  · rw [g3 c (by rw [emap]; exact hc), getQ_rep]
theorem getD_inj {s : List Nat} (nd : s.Nodup) {i j : Nat} (hi : i < s.length) (hj : j < s.length) (h : s.getD i 0 = s.getD j 0) : i = j := by
  rw [List.getD_eq_getElem?_getD, List.getD_eq_getElem?_getD, List.getElem?_eq_getElem hi, List.getElem?_eq_getElem hj] at h
  have h' : s[i] = s[j] := by simpa using h
  have pw := List.pairwise_iff_getElem.mp nd
  rcases Nat.lt_trichotomy i j with q | q | q
  · exact absurd h' (pw i j hi hj q)
  · exact q
  · exact absurd h'.symm (pw j i hj hi q)
theorem onlyLines_shp0 {won : List (List Rat)} {s t : List Nat} : ∀ l ∈ onlyLines won s t, Shp s.length 0 l := fun l hl => by
  unfold onlyLines at hl
  rcases List.mem_cons.mp hl with q | q
  · rw [q]; exact ⟨by simp, rfl⟩
  · obtain ⟨a, _, rfl⟩ := List.mem_map.mp q
    exact ⟨by simp, rfl⟩
section
variable {m : Market} {k : Nat}
theorem line_one (s : List Nat) (y : Nat → Rat) : S s.length (fun j => getQ (s.map fun _ => (1 : Rat)) j * y j) = S s.length y := S_congr fun j hj => by
  rw [getQ_mapL _ 0 _ _ hj]; grind
theorem line_at (s : List Nat) (a : Nat) (y : Nat → Rat) : S s.length (fun j => getQ (s.map fun c => getQ ((gains m k).getD c []) a) j * y j) = S s.length (fun j => Gm m k (s.getD j 0) a * y j) := S_congr fun j hj => by
  rw [getQ_mapL _ 0 _ _ hj]; rfl
theorem mem_always {a : Nat} : a ∈ always m k ↔ (nodeAt m k).rules[a]? = some .any := by
  unfold always
  rw [List.mem_map]
  constructor
  · rintro ⟨⟨r, b⟩, h, rfl⟩
    obtain ⟨h1, h2⟩ := List.mem_filter.mp h
    have h3 := List.mem_zipIdx_iff_getElem?.mp h1
    have h4 : r = .any := of_decide_eq_true h2
    subst h4
    simpa using h3
  · intro h
    exact ⟨(.any, a), List.mem_filter.mpr ⟨List.mem_zipIdx_iff_getElem?.mpr (by simpa using h), rfl⟩, rfl⟩
theorem mem_sometimes {a : Nat} : a ∈ sometimes m k ↔ (nodeAt m k).rules[a]? = some .long ∨ (nodeAt m k).rules[a]? = some .short := by
  unfold sometimes
  rw [List.mem_map]
  constructor
  · rintro ⟨⟨r, b⟩, h, rfl⟩
    obtain ⟨h1, h2⟩ := List.mem_filter.mp h
    have h3 := List.mem_zipIdx_iff_getElem?.mp h1
    rcases Bool.or_eq_true_iff.mp h2 with q | q
    · have h4 : r = .long := of_decide_eq_true q
      subst h4
      exact .inl (by simpa using h3)
    · have h4 : r = .short := of_decide_eq_true q
      subst h4
      exact .inr (by simpa using h3)
  · rintro (h | h)
    · exact ⟨(.long, a), List.mem_filter.mpr ⟨List.mem_zipIdx_iff_getElem?.mpr (by simpa using h), rfl⟩, rfl⟩
    · exact ⟨(.short, a), List.mem_filter.mpr ⟨List.mem_zipIdx_iff_getElem?.mpr (by simpa using h), rfl⟩, rfl⟩
end
end Hq
end
section
set_option linter.all false
set_option maxHeartbeats 1000000
namespace Hq
theorem ruleA_at {m : Market} {k a : Nat} (h : a < (nodeAt m k).rules.length) : (nodeAt m k).rules[a]? = some (ruleA m k a) := by
  unfold ruleA
  rw [List.getD_eq_getElem?_getD, List.getElem?_eq_getElem h]; rfl
theorem ext_of_tight {m : Market} {k : Nat} (hr : (nodeAt m k).rules.length = m.many) {x : List Rat} (hw : isWeights m k x = true) (hK : ∀ W, ¬ Kern (kids m k).length m.many (Gm m k) (ruleA m k) (getQ x) W) : x ∈ extremes m k := by
  obtain ⟨nc0, xl, fw⟩ := (isW_iff hr).mp hw
  let nc := (kids m k).length
  let p : Nat → Bool := fun c => decide (getQ x c ≠ 0)
  let s := (List.range nc).filter p
  let more := (sometimes m k).filter fun a => decide (meanF nc (Gm m k) (getQ x) a = 0)
  let t := always m k ++ more
  let es := onlyLines (gains m k) s t
  let y : Nat → Rat := fun i => getQ x (s.getD i 0)
  have snd : s.Nodup := List.Nodup.sublist List.filter_sublist List.nodup_range
  have slt : ∀ c ∈ s, c < nc := fun c hc => List.mem_range.mp (List.mem_filter.mp hc).1
  have sget : ∀ i, i < s.length → s.getD i 0 ∈ s := fun i hi => by
    rw [List.getD_eq_getElem?_getD, List.getElem?_eq_getElem hi]
    exact List.getElem_mem hi
  have nots : ∀ c, c < nc → c ∉ s → getQ x c = 0 := fun c hc hn => by
    by_cases e : getQ x c = 0
    · exact e
    · exact absurd (List.mem_filter.mpr ⟨List.mem_range.mpr hc, decide_eq_true e⟩) hn
  have full : ∀ g : Nat → Rat, S s.length (fun i => g (s.getD i 0) * getQ x (s.getD i 0)) = S nc fun c => g c * getQ x c := fun g => by
    rw [S_filter p (fun c => g c * getQ x c) nc]
    refine S_congr fun c hc => ?_
    by_cases e : getQ x c = 0
    · simp [p, e]
    · simp [p, e]
  have tmean : ∀ a ∈ t, meanF nc (Gm m k) (getQ x) a = 0 := fun a ha => by
    rcases List.mem_append.mp ha with q | q
    · have h1 := mem_always.mp q
      have ha2 := (List.getElem?_eq_some_iff.mp h1).1
      have h2 := fw.mean a (by omega)
      have e : ruleA m k a = .any := by
        have := ruleA_at ha2
        rw [h1] at this
        exact (Option.some.inj this).symm
      rw [e] at h2
      exact of_decide_eq_true h2
    · exact of_decide_eq_true (List.mem_filter.mp q).2
  have hy : ∀ l ∈ es, Eqn s.length l y := fun l hl => by
    have hl' : l ∈ onlyLines (gains m k) s t := hl
    unfold onlyLines at hl'
    rcases List.mem_cons.mp hl' with q | q
    · rw [q]
      unfold Eqn
      show S s.length (fun j => getQ (s.map fun _ => (1 : Rat)) j * y j) = 1
      rw [line_one]
      have := full fun _ => 1
      rw [← fw.sum]
      have e1 : S s.length y = S s.length (fun i => 1 * getQ x (s.getD i 0)) := S_congr fun i _ => by show getQ x _ = _; grind
      rw [e1, this]
      exact S_congr fun c _ => by grind
    · obtain ⟨a, ha, rfl⟩ := List.mem_map.mp q
      unfold Eqn
      show S s.length (fun j => getQ (s.map fun c => getQ ((gains m k).getD c []) a) j * y j) = 0
      rw [line_at]
      rw [full fun c => Gm m k c a, ← tmean a ha]
      exact S_congr fun c _ => by grind
  have G := gauss_facts s.length 0 es.length es [] rfl onlyLines_shp0 (fun q hq => (by cases hq)) (fun l _ q hq => (by cases hq))
  have esl : es.length = 1 + (always m k).length + more.length := by
    show (onlyLines (gains m k) s t).length = _
    unfold onlyLines
    simp only [List.length_cons, List.length_map, t, List.length_append]
    omega
  have hnl : ¬ (gauss s.length es []).1.length < s.length := fun hlt => by
    obtain ⟨w, ⟨i0, hi0, hw0⟩, _, hom⟩ := gauss_free G hlt
    let W : Nat → Rat := fun c => S s.length fun i => if s.getD i 0 = c then w i else 0
    have sums : ∀ g : Nat → Rat, S nc (fun c => g c * W c) = S s.length fun i => g (s.getD i 0) * w i := fun g => by
      have e1 : S nc (fun c => g c * W c) = S nc (fun c => S s.length fun i => if s.getD i 0 = c then g c * w i else 0) := S_congr fun c _ => by
        show g c * S s.length _ = _
        rw [← S_mul]
        refine S_congr fun i _ => ?_
        split <;> grind
      rw [e1, S_swap]
      refine S_congr fun i hi => ?_
      rw [S_only (p := s.getD i 0) (slt _ (sget i hi)) fun c _ hc => if_neg fun e => hc e.symm, if_pos rfl]
    refine hK W ⟨fun c hc hx => ?_, ?_, fun a ha hra => ?_, fun a ha hra hm => ?_, ?_⟩
    · refine S_zero_of fun i hi => if_neg fun e => ?_
      have := (List.mem_filter.mp (sget i hi)).2
      rw [e] at this
      exact (of_decide_eq_true this) hx
    · have h1 := hom ⟨s.map fun _ => 1, 1, []⟩ List.mem_cons_self
      unfold Hom at h1
      rw [line_one] at h1
      have := sums fun _ => 1
      have e2 : S nc (fun c => 1 * W c) = S nc W := S_congr fun c _ => by grind
      have e3 : S s.length (fun i => 1 * w i) = S s.length w := S_congr fun c _ => by grind
      rw [e2, e3, h1] at this
      exact this
    · have hm : a ∈ always m k := mem_always.mpr (by rw [ruleA_at (by omega), hra])
      have h1 := hom ⟨s.map fun c => getQ ((gains m k).getD c []) a, 0, []⟩ (List.mem_cons_of_mem _ (List.mem_map.mpr ⟨a, List.mem_append_left _ hm, rfl⟩))
      unfold Hom at h1
      rw [line_at] at h1
      have := sums fun c => Gm m k c a
      rw [h1] at this
      rw [← this]
      exact S_congr fun c _ => by grind
    · have hs : a ∈ sometimes m k := mem_sometimes.mpr (by
        rw [ruleA_at (by omega)]
        rcases hra with q | q
        · rw [q]; exact .inl rfl
        · rw [q]; exact .inr rfl)
      have h1 := hom ⟨s.map fun c => getQ ((gains m k).getD c []) a, 0, []⟩ (List.mem_cons_of_mem _ (List.mem_map.mpr ⟨a, List.mem_append_right _ (List.mem_filter.mpr ⟨hs, decide_eq_true hm⟩), rfl⟩))
      unfold Hom at h1
      rw [line_at] at h1
      have := sums fun c => Gm m k c a
      rw [h1] at this
      rw [← this]
      exact S_congr fun c _ => by grind
    · refine ⟨s.getD i0 0, slt _ (sget i0 hi0), ?_⟩
      show S s.length (fun i => if s.getD i 0 = s.getD i0 0 then w i else 0) ≠ 0
      rw [S_only (p := i0) hi0 fun j hj hne => if_neg fun e => hne (getD_inj snd hj hi0 e), if_pos rfl]
      exact hw0
  obtain ⟨u1, u2⟩ := gauss_unique G hnl hy
  have hleft : (gauss s.length es []).2.1.any (fun l => decide (l.b ≠ 0)) = false := by
    rw [List.any_eq_false]
    intro l hl
    have h1 := ((G.eqn y).mp hy).2 l hl
    unfold Eqn at h1
    rw [S_zero_of fun j hj => by rw [G.left l hl j hj]; grind] at h1
    simp [← h1]
  have s0 : 0 < s.length := by
    rcases Nat.eq_zero_or_pos s.length with q | q
    · exfalso
      have := full fun _ => 1
      rw [q] at this
      have e2 : S nc (fun c => 1 * getQ x c) = S nc (getQ x) := S_congr fun c _ => by grind
      have e3 : S nc (getQ x) = 1 := fw.sum
      rw [e2, e3] at this
      have : (0 : Rat) = 1 := this
      grind
    · exact q
  have hon : onlyNumbers m k s t = some x := by
    unfold onlyNumbers
    simp only []
    rw [if_neg]
    · congr 1
      obtain ⟨g1, g2, g3⟩ := spread_get s (filledIn s.length (gauss s.length es []).1 []) (gains m k).length snd (fun c hc => by rw [gains_len]; exact slt c hc)
      refine ext_getQ (by rw [g1, gains_len, xl]) fun c hc => ?_
      rw [g1, gains_len] at hc
      by_cases hm : c ∈ s
      · obtain ⟨i, hi, rfl⟩ := List.getElem_of_mem hm
        have e : s.getD i 0 = s[i] := by rw [List.getD_eq_getElem?_getD, List.getElem?_eq_getElem hi]; rfl
        have h1 := g2 i hi
        rw [e] at h1
        rw [h1, u2 i hi]
        show getQ x (s.getD i 0) = _
        rw [e]
      · rw [g3 c hm, nots c hc hm]
    · intro h
      rcases Bool.or_eq_true_iff.mp h with q | q
      · exact hnl (of_decide_eq_true q)
      · rw [hleft] at q; cases q
  refine ext_has (s := s) (more := more) (parts_filter p _) (parts_filter _ _) s0 ?_ hon hw
  have := G.len
  rw [← esl, ← this]
  omega
/-- every list of weights has an extreme one whose mean is not less -/
theorem ext_dom {m : Market} {k : Nat} (hr : (nodeAt m k).rules.length = m.many) {x v : List Rat} (hw : isWeights m k x = true) (hv : v.length = (kids m k).length) : ∃ e ∈ extremes m k, dotQ x v ≤ dotQ e v := by
  obtain ⟨nc0, xl, fw⟩ := (isW_iff hr).mp hw
  let E : (Nat → Rat) → Prop := fun y => ∃ e ∈ extremes m k, ∀ c, c < (kids m k).length → getQ e c = y c
  have toL : ∀ y : Nat → Rat, ∀ c, c < (kids m k).length → getQ ((List.range (kids m k).length).map y) c = y c := fun y c hc => getQ_range y _ c hc
  have fwc : ∀ y z : Nat → Rat, (∀ c, c < (kids m k).length → z c = y c) → FW (kids m k).length m.many (Gm m k) (ruleA m k) y → FW (kids m k).length m.many (Gm m k) (ruleA m k) z := fun y z h f => by
    refine ⟨fun c hc => by rw [h c hc]; exact f.pos c hc, by rw [S_congr h]; exact f.sum, fun a ha => ?_⟩
    have : meanF (kids m k).length (Gm m k) z a = meanF (kids m k).length (Gm m k) y a := S_congr fun c hc => by rw [h c hc]
    rw [this]
    exact f.mean a ha
  have hE : ∀ y, FW (kids m k).length m.many (Gm m k) (ruleA m k) y → (∀ W, ¬ Kern (kids m k).length m.many (Gm m k) (ruleA m k) y W) → E y := fun y hy hk => by
    let e := (List.range (kids m k).length).map y
    have he : isWeights m k e = true := (isW_iff hr).mpr ⟨nc0, by simp [e], fwc y _ (toL y) hy⟩
    refine ⟨e, ext_of_tight hr he fun W hW => hk W ⟨fun c hc hx => hW.sup c hc (by rw [toL y c hc]; exact hx), hW.sum, hW.any, fun a ha hra hm => hW.tight a ha hra ?_, hW.ne⟩, toL y⟩
    rw [← hm]
    exact S_congr fun c hc => by rw [toL y c hc]
  obtain ⟨y, _, ⟨e, he1, he2⟩, hle⟩ := descend (kids m k).length m.many (Gm m k) (ruleA m k) E hE (getQ v) _ (getQ x) (Nat.le_refl _) fw
  refine ⟨e, he1, ?_⟩
  rw [dot_S (n := (kids m k).length) (.inr (by omega)), dot_S (n := (kids m k).length) (.inr (by omega))]
  rw [S_congr (f := fun i => getQ e i * getQ v i) (g := fun c => y c * getQ v c) fun c hc => by rw [he2 c hc]]
  exact hle
end Hq
end
section
set_option linter.all false
set_option maxHeartbeats 1000000
set_option exponentiation.threshold 100000
/-! sizes: numbers over a common denominator -/
namespace Hq
/-- q is z/D, z of so many signs at most -/
def Dn (D : Int) (k : Nat) (q : Rat) : Prop := ∃ z : Int, q * (D : Rat) = z ∧ z.natAbs < 2 ^ k
theorem cast_ne {D : Int} (h : D ≠ 0) : (D : Rat) ≠ 0 := fun z => h (Rat.intCast_eq_zero_iff.mp z)
theorem Dn.mono {D : Int} {j k : Nat} {q : Rat} (h : Dn D j q) (l : j ≤ k) : Dn D k q := by
  obtain ⟨z, e, b⟩ := h
  exact ⟨z, e, Nat.lt_of_lt_of_le b (Nat.pow_le_pow_right (by decide) l)⟩
theorem Dn.zero (D : Int) (k : Nat) : Dn D k 0 := ⟨0, by grind, by simpa using Nat.pow_pos (by decide)⟩
theorem Dn.add {D : Int} {k : Nat} {a b : Rat} (ha : Dn D k a) (hb : Dn D k b) : Dn D (k + 1) (a + b) := by
  obtain ⟨z, e, l⟩ := ha
  obtain ⟨w, f, m⟩ := hb
  refine ⟨z + w, by grind, ?_⟩
  have := Int.natAbs_add_le z w
  rw [Nat.pow_succ]; omega
theorem Dn.neg {D : Int} {k : Nat} {a : Rat} (ha : Dn D k a) : Dn D k (-a) := by
  obtain ⟨z, e, l⟩ := ha
  exact ⟨-z, by grind, by rw [Int.natAbs_neg]; exact l⟩
theorem Dn.nsub {D : Int} {k : Nat} {a : Rat} (ha : Dn D k a) : Dn D k (0 - a) := by rw [zero_sub]; exact ha.neg
theorem Dn.sub {D : Int} {k : Nat} {a b : Rat} (ha : Dn D k a) (hb : Dn D k b) : Dn D (k + 1) (a - b) := by
  rw [Rat.sub_eq_add_neg]; exact ha.add hb.neg
theorem Dn.mul {D E : Int} {j k : Nat} {a b : Rat} (ha : Dn D j a) (hb : Dn E k b) : Dn (D * E) (j + k) (a * b) := by
  obtain ⟨z, e, l⟩ := ha
  obtain ⟨w, f, m⟩ := hb
  refine ⟨z * w, by grind, ?_⟩
  rw [Int.natAbs_mul]; exact mul_lt2 l m
theorem Dn.wide {D E : Int} {k e : Nat} {a : Rat} (ha : Dn D k a) (he : E.natAbs < 2 ^ e) : Dn (D * E) (k + e) a := by
  obtain ⟨z, q, l⟩ := ha
  refine ⟨z * E, by grind, ?_⟩
  rw [Int.natAbs_mul]; exact mul_lt2 l he
theorem Dn.wideL {D E : Int} {k e : Nat} {a : Rat} (ha : Dn D k a) (he : E.natAbs < 2 ^ e) : Dn (E * D) (k + e) a := by
  rw [Int.mul_comm]; exact ha.wide he
theorem Dn.sm {D : Int} {k d n : Nat} {a : Rat} (ha : Dn D k a) (h0 : D ≠ 0) (hd : D.natAbs < 2 ^ d) (hk : k ≤ n) (hn : d ≤ n) : Sm n a := by
  obtain ⟨z, q, l⟩ := ha
  have e : a = Rat.divInt z D := by
    rw [Rat.divInt_eq_div]
    have := cast_ne h0
    grind
  rw [e]
  exact Sm.of_divInt h0 (Nat.lt_of_lt_of_le l (Nat.pow_le_pow_right (by decide) hk)) (Nat.lt_of_lt_of_le hd (Nat.pow_le_pow_right (by decide) hn))
theorem Dn.one_ : Dn 1 1 1 := ⟨1, by grind, by decide⟩
theorem Dn.sum {D : Int} {k : Nat} {f : Nat → Rat} : ∀ {n : Nat}, (∀ i, i < n → Dn D k (f i)) → Dn D (k + n) (S n f)
  | 0, _ => Dn.zero D k
  | n + 1, h => by
    have h1 := Dn.sum (n := n) fun i hi => h i (by omega)
    have h2 := (h n (by omega)).mono (show k ≤ k + n by omega)
    exact h1.add h2
theorem mulD {D E : Int} {d e : Nat} (h : D.natAbs < 2 ^ d) (g : E.natAbs < 2 ^ e) : (D * E).natAbs < 2 ^ (d + e) := by
  rw [Int.natAbs_mul]; exact mul_lt2 h g
theorem monoD {D : Int} {d e : Nat} (h : D.natAbs < 2 ^ d) (l : d ≤ e) : D.natAbs < 2 ^ e := Nat.lt_of_lt_of_le h (Nat.pow_le_pow_right (by decide) l)
/-- all places over one denominator -/
def DnL (D : Int) (k : Nat) (xs : List Rat) : Prop := ∀ i, Dn D k (getQ xs i)
theorem DnL.of_lt {D : Int} {k : Nat} {xs : List Rat} (h : ∀ i, i < xs.length → Dn D k (getQ xs i)) : DnL D k xs := fun i => by
  rcases Nat.lt_or_ge i xs.length with q | q
  · exact h i q
  · rw [getQ_ge q]; exact Dn.zero _ _
theorem DnL.sm {D : Int} {k d n : Nat} {xs : List Rat} (h : DnL D k xs) (h0 : D ≠ 0) (hd : D.natAbs < 2 ^ d) (hk : k ≤ n) (hn : d ≤ n) : AllSm n xs := fun x hx => by
  obtain ⟨i, hi, rfl⟩ := List.getElem_of_mem hx
  rw [← getQ_lt hi]
  exact (h i).sm h0 hd hk hn
theorem DnL.mono {D : Int} {j k : Nat} {xs : List Rat} (h : DnL D j xs) (l : j ≤ k) : DnL D k xs := fun i => (h i).mono l
theorem getQ_take (xs : List Rat) (n i : Nat) : getQ (xs.take n) i = if i < n then getQ xs i else 0 := by
  unfold getQ
  rw [List.getD_eq_getElem?_getD, List.getD_eq_getElem?_getD, List.getElem?_take]
  split <;> rfl
theorem DnL.sumOk {D : Int} {k d : Nat} {xs : List Rat} (h : DnL D k xs) (h0 : D ≠ 0) (hd : D.natAbs < 2 ^ d) (hk : k + xs.length ≤ 4400) (hn : d ≤ 4400) : SumOk xs := by
  refine ⟨h.sm h0 hd (by omega) hn, fun i hi => ?_⟩
  rw [sumQ_S (xs := xs.take i) (n := i) (by rw [List.length_take]; omega)]
  exact (Dn.sum (k := k) fun j hj => by rw [getQ_take, if_pos hj]; exact h j).sm h0 hd (by omega) hn
theorem DnL.zip {D E : Int} {j k : Nat} {a b : List Rat} (ha : DnL D j a) (hb : DnL E k b) : DnL (D * E) (j + k) (List.zipWith (· * ·) a b) := DnL.of_lt fun i hi => by
  rw [List.length_zipWith] at hi
  rw [getQ_zip _ _ _ _ (by omega) (by omega)]
  exact (ha i).mul (hb i)
theorem DnL.dot {D E : Int} {j k n : Nat} {a b : List Rat} (ha : DnL D j a) (hb : DnL E k b) (hl : a.length ≤ n ∨ b.length ≤ n) : Dn (D * E) (j + k + n) (dotQ a b) := by
  rw [dot_S hl]
  exact Dn.sum fun i _ => (ha i).mul (hb i)
theorem mul_ne {D E : Int} (h : D ≠ 0) (g : E ≠ 0) : D * E ≠ 0 := Int.mul_ne_zero h g
/-! rows of Gauss -/
def Row (k : Nat) (l : Line) : Prop := ∃ D : Int, D ≠ 0 ∧ D.natAbs < 2 ^ k ∧ DnL D k l.f ∧ Dn D k l.b
theorem Row.mono {j k : Nat} {l : Line} (h : Row j l) (hl : j ≤ k) : Row k l := by
  obtain ⟨D, a, b, c, d⟩ := h
  exact ⟨D, a, monoD b hl, c.mono hl, d.mono hl⟩
theorem Dn.num_ne {D z : Int} {a : Rat} (h : a * (D : Rat) = z) (h0 : D ≠ 0) (ha : a ≠ 0) : z ≠ 0 := fun e => by
  rw [e] at h
  have := cast_ne h0
  have h2 : a * (D : Rat) = 0 := by rw [h]; rfl
  rcases Rat.mul_eq_zero.mp h2 with q | q
  · exact ha q
  · exact this q
theorem row_wo {n kk k p : Nat} {e l : Line} (se : Shp n kk e) (sl : Shp n kk l) (he : Row k e) (hl : Row k l) (h0 : getQ e.f p ≠ 0) : Row (2 * k + 1) (withoutL p e l) := by
  by_cases hz : getQ l.f p = 0
  · have : withoutL p e l = l := by unfold withoutL; rw [if_pos hz]
    rw [this]
    exact hl.mono (by omega)
  · obtain ⟨D, d0, d1, df, db⟩ := he
    obtain ⟨E, e0, e1, ef, eb⟩ := hl
    obtain ⟨zp, hzp, lzp⟩ := df p
    obtain ⟨wp, hwp, lwp⟩ := ef p
    have zne : zp ≠ 0 := Dn.num_ne hzp d0 h0
    have zq := cast_ne zne
    have main : ∀ x y : Rat, Dn E k x → Dn D k y → Dn (E * zp) (2 * k + 1) (x + (0 - getQ l.f p) / getQ e.f p * y) := fun x y hx hy => by
      obtain ⟨z, q, b⟩ := hx
      obtain ⟨w, r, c⟩ := hy
      refine ⟨z * zp - wp * w, ?_, ?_⟩
      · have h1 : (0 - getQ l.f p) / getQ e.f p * y * ((E : Rat) * (zp : Rat)) = -((wp : Rat) * (w : Rat)) := by
          rw [← hzp, ← hwp, ← r]
          grind
        have : (((E * zp : Int)) : Rat) = (E : Rat) * (zp : Rat) := Rat.intCast_mul E zp
        rw [this]
        have h2 : x * ((E : Rat) * (zp : Rat)) = (z : Rat) * (zp : Rat) := by rw [← q]; grind
        have h3 : (((z * zp - wp * w : Int)) : Rat) = (z : Rat) * (zp : Rat) - (wp : Rat) * (w : Rat) := by rw [Rat.intCast_sub, Rat.intCast_mul, Rat.intCast_mul]
        rw [h3]
        grind
      · have h1 := mulD b lzp
        have h2 := mulD lwp c
        have h3 := Int.natAbs_sub_le (z * zp) (wp * w)
        have h4 : 2 ^ (2 * k + 1) = 2 ^ (k + k) + 2 ^ (k + k) := by rw [Nat.pow_succ, Nat.two_mul]; omega
        omega
    refine ⟨E * zp, mul_ne e0 zne, monoD (mulD e1 lzp) (by omega), DnL.of_lt fun j hj => ?_, ?_⟩
    · have hj' : j < n := by rw [(wo_shp (p := p) se sl).1] at hj; exact hj
      rw [wo_f se sl hj', if_neg hz]
      exact main _ _ (ef j) (df j)
    · rw [wo_b, if_neg hz]
      exact main _ _ eb db
/-- the pivots' sizes -/
def Pv : Nat → List (Nat × Line) → Prop
  | _, [] => True
  | k, s :: so => Row k s.2 ∧ Pv (2 * k + 1) so
theorem Pv.mono : ∀ {so : List (Nat × Line)} {j k : Nat}, Pv j so → j ≤ k → Pv k so
  | [], _, _, _, _ => trivial
  | s :: so, _, _, h, l => ⟨h.1.mono l, h.2.mono (by omega)⟩
theorem AllSm.nil (k : Nat) : AllSm k [] := fun x hx => by cases hx
theorem row_eq {k : Nat} {l : Line} (h : Row k l) (hk : k ≤ 1300) (hm : l.m = []) : EqSm l := by
  obtain ⟨D, a, b, c, d⟩ := h
  exact ⟨c.sm a b hk hk, d.sm a b hk hk, by rw [hm]; exact AllSm.nil _⟩
theorem two_pow_pos (c : Nat) : 1 ≤ 2 ^ c := Nat.pow_pos (by decide)
theorem gauss_sz (n : Nat) : ∀ (c : Nat) (es : List Line) (k : Nat), es.length = c → (∀ l ∈ es, Shp n 0 l) → (∀ l ∈ es, Row k l) → 2 ^ c * (k + 1) ≤ 2602 → gaussOk n es [] ∧ Pv k (gauss n es []).1
  | 0, es, k, hc, hs, hr, hb => by
    have := List.length_eq_zero_iff.mp hc
    subst this
    rw [gs_nil]
    exact ⟨by rw [gaussOk]; trivial, trivial⟩
  | c + 1, [], _, hc, _, _, _ => by cases hc
  | c + 1, e :: rest, k, hc, hs, hr, hb => by
    have hc' : rest.length = c := by simpa using hc
    have he := hs e List.mem_cons_self
    have hrs : ∀ l ∈ rest, Shp n 0 l := fun l hl => hs l (List.mem_cons_of_mem _ hl)
    have hrr : ∀ l ∈ rest, Row k l := fun l hl => hr l (List.mem_cons_of_mem _ hl)
    have re := hr e List.mem_cons_self
    have h1 := two_pow_pos c
    have hb2 : 2 ^ c * (2 * k + 1 + 1) ≤ 2602 := by
      have : 2 ^ (c + 1) * (k + 1) = 2 ^ c * (2 * k + 1 + 1) := by rw [Nat.pow_succ]; grind
      omega
    have hk : k ≤ 1300 := by
      have : 1 * (2 * k + 1 + 1) ≤ 2 ^ c * (2 * k + 1 + 1) := Nat.mul_le_mul_right _ h1
      omega
    have nil : ∀ l : Line, Shp n 0 l → l.m = [] := fun l h => List.length_eq_zero_iff.mp h.2
    have eqs : EqSm e ∧ (∀ l ∈ rest, EqSm l) := ⟨row_eq re hk (nil e he), fun l hl => row_eq (hrr l hl) hk (nil l (hrs l hl))⟩
    cases hf : firstPlace n e with
    | none =>
      have hb3 : 2 ^ c * (k + 1) ≤ 2602 := Nat.le_trans (Nat.mul_le_mul_left _ (by omega)) hb2
      obtain ⟨i1, i2⟩ := gauss_sz n c rest k hc' hrs hrr hb3
      rw [gs_none hf]
      refine ⟨?_, i2⟩
      rw [gaussOk]
      refine ⟨eqs.1, eqs.2, (fun l hl => nomatch hl), ?_⟩
      simp only [hf]
      exact i1
    | some p =>
      obtain ⟨hp, hp0⟩ := first_some hf
      obtain ⟨i1, i2⟩ := gauss_sz n c (rest.map (withoutL p e)) (2 * k + 1) (by rw [List.length_map]; exact hc') (fun l hl => by
        obtain ⟨l', h', rfl⟩ := List.mem_map.mp hl
        exact wo_shp he (hrs l' h')) (fun l hl => by
        obtain ⟨l', h', rfl⟩ := List.mem_map.mp hl
        exact row_wo he (hrs l' h') re (hrr l' h') hp0) hb2
      rw [gs_some hf]
      refine ⟨?_, re, i2⟩
      rw [gaussOk]
      refine ⟨eqs.1, eqs.2, (fun l hl => nomatch hl), ?_⟩
      simp only [hf]
      exact i1
/-! filling in behind Gauss -/
theorem fill2_app : ∀ (a b : List (Nat × Line)) (x : List Rat), fillOk2 x a → fillOk2 (a.foldl fillEq x) b → fillOk2 x (a ++ b)
  | [], _, _, _, h => h
  | s :: a, b, x, h, g => ⟨h.1, h.2.1, fill2_app a b _ h.2.2 g⟩
/-- the list is over one denominator -/
def XL (n t : Nat) (x : List Rat) : Prop := x.length = n ∧ ∃ W : Int, W ≠ 0 ∧ W.natAbs < 2 ^ t ∧ DnL W t x
theorem DnL.set0 {D : Int} {k : Nat} {xs : List Rat} (h : DnL D k xs) (p : Nat) : DnL D k (xs.set p 0) := fun i => by
  rw [getQ_set]
  split
  · exact Dn.zero _ _
  · exact h i
theorem step_fill {n k t p : Nat} {e : Line} {x : List Rat} (se : Shp n 0 e) (hp : p < n) (h0 : getQ e.f p ≠ 0) (he : Row k e) (hx : XL n t x) (hk : k ≤ 1300) (ht : k + t + n + 1 ≤ 4400) (hn : n < 1000) :
    p < x.length ∧ LimOk p e (x.set p 0) ∧ XL n (k + t + n + 1) (fillEq x (p, e)) := by
  obtain ⟨xl, W, w0, w1, wx⟩ := hx
  obtain ⟨D, d0, d1, df, db⟩ := he
  have x0 := wx.set0 p
  have lf := se.1
  have hm : e.m = [] := List.length_eq_zero_iff.mp se.2
  have dn0 : D * W ≠ 0 := mul_ne d0 w0
  have dn1 : (D * W).natAbs < 2 ^ (k + t) := mulD d1 w1
  have ddot : Dn (D * W) (k + t + n) (dotQ e.f (x.set p 0)) := df.dot x0 (.inl (by omega))
  have dsub : Dn (D * W) (k + t + n + 1) (e.b - dotQ e.f (x.set p 0)) := ((db.wide w1).mono (by omega)).sub ddot
  refine ⟨by omega, ⟨⟨df.sm d0 d1 hk hk, db.sm d0 d1 (by omega) (by omega), by rw [hm]; exact AllSm.nil _⟩, x0.sm w0 w1 (by omega) (by omega), ?_, dsub.sm dn0 dn1 (by omega) (by omega), h0, by omega, by omega⟩, ?_, ?_⟩
  · exact (df.zip x0).sumOk dn0 dn1 (by rw [List.length_zipWith, lf]; omega) (by omega)
  · unfold fillEq; simp [xl]
  · obtain ⟨zp, hzp, lzp⟩ := df p
    have zne : zp ≠ 0 := Dn.num_ne hzp d0 h0
    have zq := cast_ne zne
    refine ⟨W * zp, mul_ne w0 zne, monoD (mulD w1 lzp) (by omega), fun i => ?_⟩
    unfold fillEq
    simp only []
    rw [getQ_set, getQ_set]
    split
    · obtain ⟨z, q, b⟩ := dsub
      refine ⟨z, ?_, b⟩
      rw [← q, Rat.intCast_mul, Rat.intCast_mul, ← hzp]
      grind
    · split
      · exact Dn.zero _ _
      · exact ((wx i).wide lzp).mono (by omega)
theorem fill_sz {n : Nat} (hn : n < 1000) : ∀ (so : List (Nat × Line)) (k : Nat), (∀ s ∈ so, Shp n 0 s.2 ∧ s.1 < n ∧ getQ s.2.f s.1 ≠ 0) → Pv k so → 2 ^ so.length * (k + 1) ≤ 2602 → 2 ^ so.length * (k + 1) + so.length * n + 1 ≤ 4400 →
    fillOk2 (List.replicate n 0) so.reverse ∧ XL n ((2 ^ so.length - 1) * (k + 1) + so.length * n + 1) (so.reverse.foldl fillEq (List.replicate n 0))
  | [], k, _, _, _, _ => ⟨trivial, List.length_replicate .., 1, by decide, by
      show 1 < 2 ^ ((2 ^ ([] : List (Nat × Line)).length - 1) * (k + 1) + ([] : List (Nat × Line)).length * n + 1)
      rw [Nat.pow_succ]
      have := two_pow_pos ((2 ^ ([] : List (Nat × Line)).length - 1) * (k + 1) + ([] : List (Nat × Line)).length * n)
      omega, fun i => by
      show Dn 1 _ (getQ (List.replicate n 0) i)
      rw [getQ_rep]; exact Dn.zero _ _⟩
  | s :: so, k, hs, hp, hb, hb2 => by
    obtain ⟨s1, s2, s3⟩ := hs s List.mem_cons_self
    have e1 : 2 ^ (s :: so).length * (k + 1) = 2 ^ so.length * (2 * k + 1 + 1) := by rw [List.length_cons, Nat.pow_succ]; grind
    rw [e1] at hb hb2
    have e2 : (s :: so).length * n = so.length * n + n := by rw [List.length_cons, Nat.add_mul, Nat.one_mul]
    rw [e2] at hb2
    obtain ⟨i1, i2⟩ := fill_sz hn so (2 * k + 1) (fun t ht => hs t (List.mem_cons_of_mem _ ht)) hp.2 hb (by omega)
    have h1 := two_pow_pos so.length
    have hk : 1 * (2 * k + 1 + 1) ≤ 2 ^ so.length * (2 * k + 1 + 1) := Nat.mul_le_mul_right _ h1
    have e3 : (2 ^ so.length - 1) * (2 * k + 1 + 1) = 2 ^ so.length * (2 * k + 1 + 1) - (2 * k + 1 + 1) := by rw [Nat.sub_mul, Nat.one_mul]
    have e4 : (2 ^ (s :: so).length - 1) * (k + 1) = 2 ^ so.length * (2 * k + 1 + 1) - (k + 1) := by rw [Nat.sub_mul, Nat.one_mul, e1]
    rw [e3] at i2
    have st := step_fill (p := s.1) (e := s.2) s1 s2 s3 hp.1 i2 (by omega) (by omega) hn
    rw [List.reverse_cons]
    refine ⟨fill2_app _ _ _ i1 ⟨st.1, st.2.1, trivial⟩, ?_⟩
    rw [List.foldl_append, List.foldl_cons, List.foldl_nil]
    have e5 : k + (2 ^ so.length * (2 * k + 1 + 1) - (2 * k + 1 + 1) + so.length * n + 1) + n + 1 = (2 ^ (s :: so).length - 1) * (k + 1) + (s :: so).length * n + 1 := by
      rw [e4, e2]; omega
    rw [← e5]
    exact st.2.2
end Hq
end
section
set_option linter.all false
set_option maxHeartbeats 1000000
set_option exponentiation.threshold 100000
/-! sizes of the extreme weights -/
namespace Hq
/-- what is known of the gains of a node -/
structure GB (m : Market) (k : Nat) (E : Int) : Prop where
  rl : (nodeAt m k).rules.length = m.many
  many : m.many ≤ 4
  kl : (Hq.kids m k).length ≤ 6
  row : (Hq.kids m k).length + m.many ≤ 7
  e0 : E ≠ 0
  e1 : E.natAbs < 2 ^ 48
  g : ∀ c a, Dn E 48 (Gm m k c a)
theorem gm_list {m : Market} {k : Nat} (s : List Nat) (a : Nat) {E : Int} {b : Nat} (h : ∀ c a, Dn E b (Gm m k c a)) : DnL E b (s.map fun c => getQ ((gains m k).getD c []) a) := DnL.of_lt fun i hi => by
  rw [List.length_map] at hi
  rw [getQ_mapL _ 0 _ _ hi]
  exact h _ _
theorem col_DL {m : Market} {k : Nat} {E : Int} {b : Nat} (h : ∀ c a, Dn E b (Gm m k c a)) (a : Nat) : DnL E b (col (gains m k) a) := DnL.of_lt fun i hi => by
  unfold col at hi ⊢
  rw [List.length_map] at hi
  rw [getQ_mapL _ [] _ _ hi]
  exact h _ _
theorem only_row {m : Market} {k : Nat} {E : Int} (B : GB m k E) (s t : List Nat) : ∀ l ∈ onlyLines (gains m k) s t, Row 48 l := fun l hl => by
  unfold onlyLines at hl
  rcases List.mem_cons.mp hl with q | q
  · rw [q]
    refine ⟨1, by decide, by decide, DnL.of_lt fun i hi => ?_, Dn.one_.mono (by decide)⟩
    simp only [List.length_map] at hi
    rw [getQ_mapL _ 0 _ _ hi]
    exact Dn.one_.mono (by decide)
  · obtain ⟨a, _, rfl⟩ := List.mem_map.mp q
    exact ⟨E, B.e0, B.e1, gm_list s a B.g, Dn.zero _ _⟩
theorem only_len {won : List (List Rat)} {s t : List Nat} : (onlyLines won s t).length = 1 + t.length := by
  unfold onlyLines
  simp only [List.length_cons, List.length_map]
  omega
/-- a short list over one denominator -/
def WL (n : Nat) (x : List Rat) : Prop := x.length = n ∧ ∃ W : Int, W ≠ 0 ∧ W.natAbs < 2 ^ 1600 ∧ DnL W 1600 x
theorem only_sz {m : Market} {k : Nat} {E : Int} (B : GB m k E) {s t : List Nat} (hs : s.length ≤ 5) (ht : t.length ≤ 4) (nd : s.Nodup) (sk : ∀ c ∈ s, c < (kids m k).length) :
    gaussOk s.length (onlyLines (gains m k) s t) [] ∧ FillOk s.length (gauss s.length (onlyLines (gains m k) s t) []).1 [] ∧ ∀ x, onlyNumbers m k s t = some x → WL (kids m k).length x := by
  have el := only_len (won := gains m k) (s := s) (t := t)
  have hb : 2 ^ (onlyLines (gains m k) s t).length * (48 + 1) ≤ 2602 := by
    have h1 : 2 ^ (onlyLines (gains m k) s t).length ≤ 2 ^ 5 := Nat.pow_le_pow_right (by decide) (by omega)
    omega
  obtain ⟨g1, g2⟩ := gauss_sz s.length _ (onlyLines (gains m k) s t) 48 rfl onlyLines_shp0 (only_row B s t) hb
  have G := gauss_facts s.length 0 _ (onlyLines (gains m k) s t) [] rfl onlyLines_shp0 (fun q hq => nomatch hq) (fun l _ q hq => nomatch hq)
  have gl := G.len
  have h1 : 2 ^ (gauss s.length (onlyLines (gains m k) s t) []).1.length ≤ 2 ^ 5 := Nat.pow_le_pow_right (by decide) (by omega)
  have h2 : (gauss s.length (onlyLines (gains m k) s t) []).1.length * s.length ≤ 5 * 5 := Nat.mul_le_mul (by omega) hs
  obtain ⟨f1, f2⟩ := fill_sz (n := s.length) (by omega) _ 48 (fun p hp => ⟨(G.shp p hp).1, (G.shp p hp).2.1, (G.shp p hp).2.2.1⟩) g2 (by omega) (by omega)
  refine ⟨g1, ⟨trivial, f1⟩, fun x hx => ?_⟩
  unfold onlyNumbers at hx
  simp only [] at hx
  split at hx
  · cases hx
  · have hx' := (Option.some.inj hx).symm
    subst hx'
    obtain ⟨xl, W, w0, w1, wx⟩ := f2
    obtain ⟨p1, p2, p3⟩ := spread_get s (filledIn s.length (gauss s.length (onlyLines (gains m k) s t) []).1 []) (gains m k).length nd (fun c hc => by rw [gains_len]; exact sk c hc)
    refine ⟨p1.trans (gains_len m k), W, w0, monoD w1 (by omega), fun c => ?_⟩
    by_cases hm : c ∈ s
    · obtain ⟨i, hi, rfl⟩ := List.getElem_of_mem hm
      have e : s.getD i 0 = s[i] := by rw [List.getD_eq_getElem?_getD, List.getElem?_eq_getElem hi]; rfl
      have := p2 i hi
      rw [e] at this
      rw [this]
      exact (wx i).mono (by omega)
    · rw [p3 c hm]
      exact Dn.zero _ _
theorem parts_s {m : Market} {k : Nat} {s : List Nat} (hs : s ∈ partsOf (List.range (kids m k).length)) : s.Nodup ∧ ∀ c ∈ s, c < (kids m k).length := by
  have h := parts_sublist hs
  exact ⟨h.nodup List.nodup_range, fun c hc => List.mem_range.mp (h.subset hc)⟩
theorem filt_disj {α : Type} (p q : α → Bool) (h : ∀ a, ¬ (p a = true ∧ q a = true)) : ∀ l : List α, (l.filter p).length + (l.filter q).length ≤ l.length
  | [] => Nat.le_refl _
  | a :: l => by
    have ih := filt_disj p q h l
    have ha := h a
    rw [List.filter_cons, List.filter_cons]
    cases e1 : p a <;> cases e2 : q a <;> simp only [e1, e2, if_true, List.length_cons] <;> simp_all <;> omega
theorem tight_len {m : Market} {k : Nat} {E : Int} (B : GB m k E) {more : List Nat} (hm : more ∈ partsOf (sometimes m k)) : (always m k).length + more.length ≤ m.many := by
  have h := (parts_sublist hm).length_le
  have h2 : (always m k).length + (sometimes m k).length ≤ (nodeAt m k).rules.length := by
    unfold always sometimes
    rw [List.length_map, List.length_map]
    have := filt_disj (fun p : Rule × Nat => decide (p.1 = .any)) (fun p : Rule × Nat => decide (p.1 = .long) || decide (p.1 = .short)) (fun a => by
      rintro ⟨h1, h2⟩
      have h1 := of_decide_eq_true h1
      rw [h1] at h2
      simp at h2) (nodeAt m k).rules.zipIdx
    rwa [List.length_zipIdx] at this
  have := B.rl
  omega
theorem tight_lt {m : Market} {k : Nat} {E : Int} (B : GB m k E) {more : List Nat} (hm : more ∈ partsOf (sometimes m k)) : ∀ a ∈ always m k ++ more, a < m.many := fun a ha => by
  rcases List.mem_append.mp ha with q | q
  · have := (List.getElem?_eq_some_iff.mp (mem_always.mp q)).1
    rw [B.rl] at this; exact this
  · have := mem_sometimes.mp ((parts_sublist hm).subset q)
    rcases this with z | z
    · have := (List.getElem?_eq_some_iff.mp z).1
      rw [B.rl] at this; exact this
    · have := (List.getElem?_eq_some_iff.mp z).1
      rw [B.rl] at this; exact this
theorem try_sz {m : Market} {k : Nat} {E : Int} (B : GB m k E) {s more : List Nat} (hs : s ∈ partsOf (List.range (kids m k).length)) (hm : more ∈ partsOf (sometimes m k)) (h1 : s.length ≤ 1 + (always m k).length + more.length) :
    gaussOk s.length (onlyLines (gains m k) s (always m k ++ more)) [] ∧ FillOk s.length (gauss s.length (onlyLines (gains m k) s (always m k ++ more)) []).1 [] ∧ ∀ x, onlyNumbers m k s (always m k ++ more) = some x → WL (kids m k).length x := by
  obtain ⟨a, b⟩ := parts_s hs
  have := tight_len B hm
  have := B.many
  exact only_sz B (by omega) (by rw [List.length_append]; omega) a b
theorem fold_P2 {α β : Type} (f : α → β → α) (P : α → Prop) (l : List β) (hP : ∀ F b, b ∈ l → P F → P (f F b)) : ∀ (F : α), P F → P (l.foldl f F) := by
  induction l with
  | nil => exact fun F h => h
  | cons b l ih => exact fun F h => ih (fun F c hc => hP F c (List.mem_cons_of_mem _ hc)) _ (hP F b List.mem_cons_self h)
theorem ext_sz {m : Market} {k : Nat} {E : Int} (B : GB m k E) : ∀ x ∈ extremes m k, WL (kids m k).length x := by
  unfold extremes
  have key : ∀ F : List (List Rat), Good m k F ∧ (∀ x ∈ F, WL (kids m k).length x) → Good m k ((partsOf (List.range (kids m k).length)).foldl (fun found s => (partsOf (sometimes m k)).foldl (fun found more => tryPut m k found s more) found) F) ∧ ∀ x ∈ (partsOf (List.range (kids m k).length)).foldl (fun found s => (partsOf (sometimes m k)).foldl (fun found more => tryPut m k found s more) found) F, WL (kids m k).length x := by
    refine fold_P2 _ (fun F => Good m k F ∧ ∀ x ∈ F, WL (kids m k).length x) _ fun F s hs hF => ?_
    refine fold_P2 _ (fun F => Good m k F ∧ ∀ x ∈ F, WL (kids m k).length x) _ (fun F more hm hF => ⟨try_good F more hF.1, ?_⟩) F hF
    intro x hx
    unfold tryPut at hx
    split at hx
    · rename_i hc
      have hc2 : 0 < s.length ∧ s.length ≤ 1 + (always m k).length + more.length := by simpa using hc
      split at hx
      · exact hF.2 x hx
      · rename_i y hy
        split at hx
        · rename_i hw
          obtain ⟨a, b⟩ := asc_put hF.1.1 (isW_len hw)
          rcases (b x).mp hx with q | q
          · exact hF.2 x q
          · rw [q]; exact (try_sz B hs hm hc2.2).2.2 y hy
        · exact hF.2 x hx
    · exact hF.2 x hx
  exact (key [] ⟨⟨⟨(fun l hl => nomatch hl), List.Pairwise.nil⟩, (fun z hz => nomatch hz)⟩, (fun x hx => nomatch hx)⟩).2
/-- how many -/
theorem putIn_le (ls : List (List Rat)) (y : List Rat) : (putIn ls y).length ≤ ls.length + 1 := by
  unfold putIn
  split
  · omega
  · have := List.length_filter_le (fun o => comesBefore o y) ls
    simp only [List.length_append, List.length_drop, List.length_singleton]
    omega
theorem fold_len {β : Type} (f : List (List Rat) → β → List (List Rat)) (c : Nat) (h : ∀ F b, (f F b).length ≤ F.length + c) : ∀ (l : List β) (F : List (List Rat)), (l.foldl f F).length ≤ F.length + l.length * c
  | [], F => by simp
  | b :: l, F => by
    have h1 := fold_len f c h l (f F b)
    have h2 := h F b
    rw [List.foldl_cons, List.length_cons, Nat.add_mul, Nat.one_mul]
    omega
theorem parts_len : ∀ (t : List Nat) (acc : List (List Nat)), (t.foldl pStep acc).length = acc.length * 2 ^ t.length
  | [], acc => by simp
  | x :: t, acc => by
    rw [List.foldl_cons, parts_len t]
    unfold pStep
    rw [List.length_append, List.length_map, List.length_cons, Nat.pow_succ]
    grind
theorem ext_count {m : Market} {k : Nat} {E : Int} (B : GB m k E) : (extremes m k).length < 100000 := by
  unfold extremes
  have pl : ∀ t : List Nat, (partsOf t).length = 2 ^ t.length := fun t => by rw [parts_eq, parts_len]; simp
  have h := fold_len (fun found s => (partsOf (sometimes m k)).foldl (fun found more => tryPut m k found s more) found) ((partsOf (sometimes m k)).length * 1) (fun F s => fold_len (fun found more => tryPut m k found s more) 1 (fun F more => by
    unfold tryPut
    split
    · split
      · omega
      · split
        · exact putIn_le _ _
        · omega
    · omega) _ F) (partsOf (List.range (kids m k).length)) []
  rw [pl, pl, List.length_range, Nat.mul_one] at h
  have h3 : (sometimes m k).length ≤ 4 := by
    have h2 : (always m k).length + (sometimes m k).length ≤ m.many := tight_len B (more := sometimes m k) (by
      have := parts_filter (fun _ => true) (sometimes m k)
      rwa [List.filter_eq_self.mpr fun _ _ => rfl] at this)
    have := B.many
    omega
  have h4 : 2 ^ (sometimes m k).length ≤ 2 ^ 4 := Nat.pow_le_pow_right (by decide) h3
  have h5 : 2 ^ (kids m k).length ≤ 2 ^ 6 := Nat.pow_le_pow_right (by decide) B.kl
  have h6 := Nat.mul_le_mul h5 h4
  simp only [List.length_nil] at h
  omega
/-- each can be looked at -/
theorem WL.sumOk {n : Nat} {x : List Rat} (h : WL n x) (hn : n ≤ 100) : SumOk x := by
  obtain ⟨l, W, w0, w1, wx⟩ := h
  exact wx.sumOk w0 w1 (by omega) (by omega)
theorem WL.allSm {n : Nat} {x : List Rat} (h : WL n x) : AllSm 1600 x := by
  obtain ⟨l, W, w0, w1, wx⟩ := h
  exact wx.sm w0 w1 (Nat.le_refl _) (Nat.le_refl _)
end Hq
end
section
set_option linter.all false
set_option maxHeartbeats 1000000
set_option exponentiation.threshold 100000
/-! equations of one variable each -/
namespace Hq
def plc (n : Nat) (e : Line) : Nat := (firstPlace n e).getD 0
structure UnitE (n K : Nat) (e : Line) : Prop where
  shp : Shp n K e
  lt : plc n e < n
  first : firstPlace n e = some (plc n e)
  f : ∀ j, j < n → getQ e.f j = if j = plc n e then 1 else 0
  b : e.b = 0
  m : ∀ j, getQ e.m j = 0 ∨ getQ e.m j = 1
/-- a line without these variables -/
def red (n : Nat) (es : List Line) (l : Line) : Line := es.foldl (fun l e => withoutL (plc n e) e l) l
def Diff (n : Nat) (es : List Line) : Prop := es.Pairwise fun a b => getQ b.f (plc n a) = 0
theorem unit_rest {n : Nat} {e : Line} {rest : List Line} (h : ∀ b ∈ rest, getQ b.f (plc n e) = 0) : rest.map (withoutL (plc n e) e) = rest := by
  have : rest.map (withoutL (plc n e) e) = rest.map id := List.map_congr_left fun l hl => by
    unfold withoutL
    rw [if_pos (h l hl)]; rfl
  rw [this, List.map_id]
theorem gauss_unit {n K : Nat} : ∀ (es os : List Line), (∀ e ∈ es, UnitE n K e) → Diff n es → gauss n es os = (es.map (fun e => (plc n e, e)), [], os.map (red n es))
  | [], os, _, _ => by
    rw [gs_nil]
    have : os.map (red n []) = os.map id := List.map_congr_left fun l _ => rfl
    rw [this, List.map_id]; rfl
  | e :: rest, os, hu, hd => by
    have he := hu e List.mem_cons_self
    unfold Diff at hd
    rw [List.pairwise_cons] at hd
    rw [gs_some he.first, unit_rest hd.1, gauss_unit rest _ (fun a ha => hu a (List.mem_cons_of_mem _ ha)) hd.2, List.map_map]
    rfl
/-! what red does -/
theorem wo_m {n k p : Nat} {e l : Line} (he : Shp n k e) (hl : Shp n k l) {j : Nat} (hj : j < k) : getQ (withoutL p e l).m j = getQ l.m j + woC p e l * getQ e.m j := by
  unfold withoutL woC
  split
  · grind
  · unfold addedL scaledL
    simp only []
    rw [getQ_zip _ _ _ _ (by rw [hl.2]; exact hj) (by rw [List.length_map, he.2]; exact hj), getQ_map _ _ _ (by rw [he.2]; exact hj)]
theorem unit_f {n K : Nat} {e l : Line} (he : UnitE n K e) (hl : Shp n K l) {j : Nat} (hj : j < n) : getQ (withoutL (plc n e) e l).f j = if j = plc n e then 0 else getQ l.f j := by
  rw [wo_f he.shp hl hj, he.f j hj, he.f _ he.lt, if_pos rfl]
  by_cases h : j = plc n e
  · rw [if_pos h, if_pos h, h]
    split
    · rename_i q; rw [q]; grind
    · grind
  · rw [if_neg h, if_neg h]
    split <;> grind
theorem unit_b {n K : Nat} {e : Line} (l : Line) (he : UnitE n K e) : (withoutL (plc n e) e l).b = l.b := by
  rw [wo_b, he.b]
  split <;> grind
theorem unit_c {n K : Nat} {e : Line} (l : Line) (he : UnitE n K e) : woC (plc n e) e l = 0 - getQ l.f (plc n e) := by
  unfold woC
  rw [he.f _ he.lt, if_pos rfl]
  split <;> grind
theorem red_all {n K : Nat} : ∀ (es : List Line) (l : Line), (∀ e ∈ es, UnitE n K e) → Shp n K l →
    Shp n K (red n es l) ∧ (red n es l).b = l.b ∧ (∀ j, j < n → getQ (red n es l).f j = if j ∈ es.map (plc n) then 0 else getQ l.f j) ∧ ∀ i, i < K → (∀ e ∈ es, getQ e.m i = 0) → getQ (red n es l).m i = getQ l.m i
  | [], l, _, hl => ⟨hl, rfl, fun j _ => by simp [red], fun _ _ _ => rfl⟩
  | e :: es, l, hu, hl => by
    have he := hu e List.mem_cons_self
    obtain ⟨a, b, c, d⟩ := red_all es (withoutL (plc n e) e l) (fun a ha => hu a (List.mem_cons_of_mem _ ha)) (wo_shp he.shp hl)
    refine ⟨a, b.trans (unit_b l he), fun j hj => ?_, fun i hi hz => ?_⟩
    · refine (c j hj).trans ?_
      rw [unit_f he hl hj, List.map_cons]
      by_cases h1 : j ∈ es.map (plc n)
      · rw [if_pos h1, if_pos (List.mem_cons_of_mem _ h1)]
      · rw [if_neg h1]
        by_cases h2 : j = plc n e
        · rw [if_pos h2, if_pos (by rw [h2]; exact List.mem_cons_self)]
        · rw [if_neg h2, if_neg (fun q => (List.mem_cons.mp q).elim h2 h1)]
    · refine (d i hi fun a ha => hz a (List.mem_cons_of_mem _ ha)).trans ?_
      rw [wo_m he.shp hl hi, hz e List.mem_cons_self]; grind
/-! sizes of the lines: factors and multipliers over D, the bound over D times W -/
def LR (W : Int) (k c : Nat) (l : Line) : Prop := ∃ D : Int, D ≠ 0 ∧ D.natAbs < 2 ^ k ∧ DnL D k l.f ∧ DnL D k l.m ∧ Dn (D * W) c l.b
theorem LR.mono {W : Int} {j k c d : Nat} {l : Line} (h : LR W j c l) (h1 : j ≤ k) (h2 : c ≤ d) : LR W k d l := by
  obtain ⟨D, a, b, f, m, g⟩ := h
  exact ⟨D, a, monoD b h1, f.mono h1, m.mono h1, g.mono h2⟩
theorem LR.lineSm {W : Int} {w k c : Nat} {l : Line} (h : LR W k c l) (w0 : W ≠ 0) (w1 : W.natAbs < 2 ^ w) (hk : k ≤ 1300) (hc : c ≤ 3000) (hw : k + w ≤ 3000) : LineSm l := by
  obtain ⟨D, a, b, f, m, g⟩ := h
  exact ⟨f.sm a b hk hk, g.sm (mul_ne a w0) (mulD b w1) hc hw, m.sm a b hk hk⟩
theorem unit_LR {W : Int} {n K k c : Nat} {e l : Line} (he : UnitE n K e) (hl : Shp n K l) (h : LR W k c l) : LR W (k + 1) c (withoutL (plc n e) e l) := by
  obtain ⟨D, a, b, f, m, g⟩ := h
  have ws := wo_shp (p := plc n e) he.shp hl
  refine ⟨D, a, monoD b (by omega), DnL.of_lt fun j hj => ?_, DnL.of_lt fun j hj => ?_, by rw [unit_b l he]; exact g⟩
  · rw [ws.1] at hj
    rw [unit_f he hl hj]
    split
    · exact Dn.zero _ _
    · exact (f j).mono (by omega)
  · rw [ws.2] at hj
    rw [wo_m he.shp hl hj, unit_c l he]
    rcases he.m j with q | q
    · rw [q]
      have : getQ l.m j + (0 - getQ l.f (plc n e)) * 0 = getQ l.m j := by grind
      rw [this]
      exact (m j).mono (by omega)
    · rw [q]
      have : getQ l.m j + (0 - getQ l.f (plc n e)) * 1 = getQ l.m j - getQ l.f (plc n e) := by grind
      rw [this]
      exact (m j).sub (f _)
theorem red_LR {W : Int} {n K : Nat} : ∀ (es : List Line) (l : Line) (k c : Nat), (∀ e ∈ es, UnitE n K e) → Shp n K l → LR W k c l → LR W (k + es.length) c (red n es l)
  | [], _, _, _, _, _, h => h
  | e :: es, l, k, c, hu, hl, h => by
    have he := hu e List.mem_cons_self
    have := red_LR es (withoutL (plc n e) e l) (k + 1) c (fun a ha => hu a (List.mem_cons_of_mem _ ha)) (wo_shp he.shp hl) (unit_LR he hl h)
    rw [List.length_cons]
    exact this.mono (by omega) (Nat.le_refl _)
theorem sm01 {q : Rat} (h : q = 0 ∨ q = 1) : Sm 1300 q := by
  rcases h with h | h
  · rw [h]; exact Sm.zero (by decide)
  · rw [h]; exact Sm.one (by decide)
theorem unit_f01 {n K : Nat} {e : Line} (he : UnitE n K e) (j : Nat) : getQ e.f j = 0 ∨ getQ e.f j = 1 := by
  rcases Nat.lt_or_ge j n with q | q
  · rw [he.f j q]
    split
    · exact .inr rfl
    · exact .inl rfl
  · exact .inl (getQ_ge (by rw [he.shp.1]; exact q))
theorem unit_eqSm {n K : Nat} {e : Line} (he : UnitE n K e) : EqSm e := by
  refine ⟨fun x hx => ?_, by rw [he.b]; exact Sm.zero (by decide), fun x hx => ?_⟩
  · obtain ⟨i, hi, rfl⟩ := List.getElem_of_mem hx
    rw [← getQ_lt hi]
    exact sm01 (unit_f01 he i)
  · obtain ⟨i, hi, rfl⟩ := List.getElem_of_mem hx
    rw [← getQ_lt hi]
    exact sm01 (he.m i)
theorem unit_gaussOk {W : Int} {w n K : Nat} (w0 : W ≠ 0) (w1 : W.natAbs < 2 ^ w) : ∀ (es os : List Line) (k c : Nat), (∀ e ∈ es, UnitE n K e) → Diff n es → (∀ l ∈ os, Shp n K l) → (∀ l ∈ os, LR W k c l) → k + es.length ≤ 1300 → c ≤ 3000 → k + es.length + w ≤ 3000 → gaussOk n es os
  | [], os, k, c, _, _, _, _, _, _, _ => by rw [gaussOk]; trivial
  | e :: rest, os, k, c, hu, hd, hs, hr, h1, h2, h3 => by
    have he := hu e List.mem_cons_self
    unfold Diff at hd
    rw [List.pairwise_cons] at hd
    rw [List.length_cons] at h1 h3
    rw [gaussOk]
    refine ⟨unit_eqSm he, fun l hl => unit_eqSm (hu l (List.mem_cons_of_mem _ hl)), fun l hl => (hr l hl).lineSm w0 w1 (by omega) h2 (by omega), ?_⟩
    simp only [he.first]
    rw [unit_rest hd.1]
    exact unit_gaussOk w0 w1 rest _ (k + 1) c (fun a ha => hu a (List.mem_cons_of_mem _ ha)) hd.2 (fun l hl => by
      obtain ⟨l', h', rfl⟩ := List.mem_map.mp hl
      exact wo_shp he.shp (hs l' h')) (fun l hl => by
      obtain ⟨l', h', rfl⟩ := List.mem_map.mp hl
      exact unit_LR he (hs l' h') (hr l' h')) (by omega) h2 (by omega)
/-! filling in the equations -/
theorem unit_dot {n K : Nat} {e : Line} (he : UnitE n K e) {x : List Rat} : ∀ i, getQ (List.zipWith (· * ·) e.f (x.set (plc n e) 0)) i = 0 := fun i => by
  by_cases h : i < (List.zipWith (· * ·) e.f (x.set (plc n e) 0)).length
  · rw [List.length_zipWith] at h
    rw [getQ_zip _ _ _ _ (by omega) (by omega), getQ_set]
    have hn : i < n := by have := he.shp.1; omega
    rw [he.f i hn]
    by_cases q : i = plc n e
    · rw [if_pos q]
      rw [List.length_set] at h
      rw [if_pos ⟨q.symm, by omega⟩]; grind
    · rw [if_neg q]; grind
  · exact getQ_ge (by omega)
theorem unit_dot0 {n K : Nat} {e : Line} (he : UnitE n K e) {x : List Rat} : dotQ e.f (x.set (plc n e) 0) = 0 := by
  unfold dotQ
  rw [sumQ_S (Nat.le_refl _)]
  exact S_zero_of fun i _ => unit_dot he i
theorem unit_fill {n K : Nat} {e : Line} (he : UnitE n K e) {x : List Rat} (hx : x.length = n) : (fillEq x (plc n e, e)).length = n ∧ ∀ j, getQ (fillEq x (plc n e, e)) j = if j = plc n e then 0 else getQ x j := by
  unfold fillEq
  simp only []
  refine ⟨by simp [hx], fun j => ?_⟩
  rw [getQ_set, getQ_set, he.b, unit_dot0 he]
  have hl := he.lt
  by_cases h : j = plc n e
  · rw [if_pos h, if_pos ⟨h.symm, by rw [List.length_set]; omega⟩]; grind
  · rw [if_neg h, if_neg (fun q => h q.1.symm), if_neg (fun q => h q.1.symm)]
theorem unit_fills {n K : Nat} (hn : n < 1000) : ∀ (es : List Line) (x : List Rat), (∀ e ∈ es, UnitE n K e) → x.length = n → AllSm 4400 x →
    fillOk2 x (es.map fun e => (plc n e, e)) ∧ ((es.map fun e => (plc n e, e)).foldl fillEq x).length = n ∧ ∀ j, getQ ((es.map fun e => (plc n e, e)).foldl fillEq x) j = if j ∈ es.map (plc n) then 0 else getQ x j
  | [], x, _, hx, _ => ⟨trivial, hx, fun j => by simp⟩
  | e :: es, x, hu, hx, hs => by
    have he := hu e List.mem_cons_self
    obtain ⟨f1, f2⟩ := unit_fill he hx
    have set0 : AllSm 4400 (x.set (plc n e) 0) := fun y hy => by
      rcases List.mem_or_eq_of_mem_set hy with q | q
      · exact hs y q
      · rw [q]; exact Sm.zero (by decide)
    have fs : AllSm 4400 (fillEq x (plc n e, e)) := fun y hy => by
      obtain ⟨i, hi, rfl⟩ := List.getElem_of_mem hy
      rw [← getQ_lt hi, f2]
      split
      · exact Sm.zero (by decide)
      · exact hs.get (by decide) i
    obtain ⟨i1, i2, i3⟩ := unit_fills hn es (fillEq x (plc n e, e)) (fun a ha => hu a (List.mem_cons_of_mem _ ha)) f1 fs
    rw [List.map_cons, List.foldl_cons]
    have eq := unit_eqSm he
    have hlt := he.lt
    refine ⟨⟨by show plc n e < x.length; omega, ⟨⟨eq.1, eq.2.1.mono (by decide), eq.2.2⟩, set0, ?_, ?_, ?_, by show plc n e < e.f.length; rw [he.shp.1]; exact hlt, by show e.f.length < 1000; rw [he.shp.1]; exact hn⟩, i1⟩, i2, fun j => ?_⟩
    · refine DnL.sumOk (D := 1) (k := 1) (d := 1) (fun i => ?_) (by decide) (by decide) ?_ (by decide)
      · show Dn 1 1 (getQ (List.zipWith (· * ·) e.f (x.set (plc n e) 0)) i)
        rw [unit_dot he]; exact Dn.zero _ _
      · show 1 + (List.zipWith (· * ·) e.f (x.set (plc n e) 0)).length ≤ 4400
        rw [List.length_zipWith, he.shp.1]; omega
    · show Sm 4400 (e.b - dotQ e.f (x.set (plc n e) 0))
      rw [unit_dot0 he, he.b]
      have : (0 : Rat) - 0 = 0 := by grind
      rw [this]; exact Sm.zero (by decide)
    · show getQ e.f (plc n e) ≠ 0
      rw [he.f _ hlt, if_pos rfl]; decide
    · rw [i3, f2, List.map_cons]
      by_cases h1 : j ∈ es.map (plc n)
      · rw [if_pos h1, if_pos (List.mem_cons_of_mem _ h1)]
      · rw [if_neg h1]
        by_cases h2 : j = plc n e
        · rw [if_pos h2, if_pos (by rw [h2]; exact List.mem_cons_self)]
        · rw [if_neg h2, if_neg (fun q => (List.mem_cons.mp q).elim h2 h1)]
end Hq
end
section
set_option linter.all false
set_option maxHeartbeats 1000000
set_option exponentiation.threshold 100000
/-! sizes of the elimination -/
namespace Hq
theorem comb_LR {W : Int} {n K k c p : Nat} {h l : Line} (sh : Shp n K h) (sl : Shp n K l) (hh : LR W k c h) (hl : LR W k c l) : LR W (2 * k + 1) (k + c + 1) (combine p h l) := by
  obtain ⟨D, a, b, f, m, g⟩ := hh
  obtain ⟨E, a', b', f', m', g'⟩ := hl
  have cs := comb_shp (p := p) sh sl
  have main : ∀ x y : Rat, Dn D k x → Dn E k y → Dn (E * D) (2 * k + 1) ((0 - getQ l.f p) * x + getQ h.f p * y) := fun x y hx hy => by
    have h1 := ((f' p).nsub).mul hx
    have h2 := (f p).mul hy
    rw [Int.mul_comm D E] at h2
    exact (h1.add h2).mono (by omega)
  refine ⟨E * D, mul_ne a' a, monoD (mulD b' b) (by omega), DnL.of_lt fun j hj => ?_, DnL.of_lt fun j hj => ?_, ?_⟩
  · rw [cs.1] at hj
    rw [comb_f sh sl hj]
    exact main _ _ (f j) (f' j)
  · rw [cs.2] at hj
    rw [comb_m sh sl hj]
    exact main _ _ (m j) (m' j)
  · rw [comb_b]
    have h1 := ((f' p).nsub).mul g
    have h2 := (f p).mul g'
    have e1 : E * (D * W) = E * D * W := by grind
    have e2 : D * (E * W) = E * D * W := by grind
    rw [e1] at h1
    rw [e2] at h2
    exact h1.add h2
def kk (k : Nat) : Nat → Nat
  | 0 => k
  | i + 1 => 2 * kk k i + 1
def cc (k c : Nat) : Nat → Nat
  | 0 => c
  | i + 1 => kk k i + cc k c i + 1
theorem step_mem {p steps : Nat} {loose : List Nat} {ls : List Line} {l : Line} (h : l ∈ elimStep p loose steps ls) : l ∈ ls ∨ ∃ a ∈ ls, ∃ b ∈ ls, l = combine p a b := by
  unfold elimStep at h
  rcases List.mem_append.mp h with q | q
  · exact .inl (List.mem_filter.mp q).1
  · unfold pairs at q
    obtain ⟨a, ha, q⟩ := List.mem_flatMap.mp q
    obtain ⟨q, _⟩ := List.mem_filter.mp q
    obtain ⟨b, hb, rfl⟩ := List.mem_map.mp q
    exact .inr ⟨a, (List.mem_filter.mp ha).1, b, (List.mem_filter.mp hb).1, rfl⟩
theorem elim_LR {W : Int} {n K k c : Nat} {loose : List Nat} {ls : List Line} (hs : ∀ l ∈ ls, Shp n K l) (hr : ∀ l ∈ ls, LR W k c l) : ∀ i, ∀ l ∈ (elim loose ls i).2.1, Shp n K l ∧ LR W (kk k i) (cc k c i) l
  | 0 => fun l hl => ⟨hs l hl, hr l hl⟩
  | i + 1 => fun l hl => by
    have ih := elim_LR hs hr (loose := loose) i
    rw [elim_succ] at hl
    rcases step_mem hl with q | ⟨a, ha, b, hb, rfl⟩
    · exact ⟨(ih l q).1, (ih l q).2.mono (by show kk k i ≤ 2 * kk k i + 1; omega) (by show cc k c i ≤ kk k i + cc k c i + 1; omega)⟩
    · exact ⟨comb_shp (ih a ha).1 (ih b hb).1, comb_LR (ih a ha).1 (ih b hb).1 (ih a ha).2 (ih b hb).2⟩
/-! how many lines -/
theorem three_parts (p : Nat) : ∀ ls : List Line, (above p ls).length + (below p ls).length + (noughts p ls).length ≤ ls.length
  | [] => Nat.le_refl _
  | l :: ls => by
    have ih := three_parts p ls
    unfold above below noughts at *
    rw [List.filter_cons, List.filter_cons, List.filter_cons]
    rcases (by grind : getQ l.f p < 0 ∨ getQ l.f p = 0 ∨ 0 < getQ l.f p) with q | q | q
    · have h1 : ¬ 0 < getQ l.f p := by grind
      have h2 : ¬ getQ l.f p = 0 := by grind
      simp only [decide_eq_true q, decide_eq_false h1, decide_eq_false h2, if_true, List.length_cons, Bool.false_eq_true, if_false]; omega
    · have h1 : ¬ 0 < getQ l.f p := by grind
      have h2 : ¬ getQ l.f p < 0 := by grind
      simp only [decide_eq_true q, decide_eq_false h1, decide_eq_false h2, if_true, List.length_cons, Bool.false_eq_true, if_false]; omega
    · have h1 : ¬ getQ l.f p < 0 := by grind
      have h2 : ¬ getQ l.f p = 0 := by grind
      simp only [decide_eq_true q, decide_eq_false h1, decide_eq_false h2, if_true, List.length_cons, Bool.false_eq_true, if_false]; omega
theorem quarter {a b c N : Nat} (h : a + b + c ≤ N) (h4 : 4 ≤ N) : 4 * (c + a * b) ≤ N * N := by
  have e : ((a : Int) - b) * ((a : Int) - b) ≥ 0 := by
    rcases Int.le_total 0 ((a : Int) - b) with q | q
    · exact Int.mul_nonneg q q
    · exact Int.mul_nonneg_of_nonpos_of_nonpos q q
  have h1 : 4 * (a * b) ≤ (a + b) * (a + b) := by
    have : (4 : Int) * (a * b) ≤ (a + b) * (a + b) := by grind
    exact_mod_cast this
  have h2 : (a + b) * (a + b) ≤ (N - c) * (N - c) := Nat.mul_le_mul (by omega) (by omega)
  obtain ⟨d, hd⟩ : ∃ d, N = c + d := ⟨N - c, by omega⟩
  have e3 : N - c = d := by omega
  rw [e3] at h2
  have e4 : N * N = c * c + 2 * (c * d) + d * d := by rw [hd]; grind
  have h5 : 4 * c ≤ c * c + 2 * (c * d) := by
    have : c * (c + 2 * d) ≥ c * 4 ∨ c + 2 * d < 4 := by
      rcases Nat.lt_or_ge (c + 2 * d) 4 with q | q
      · exact .inr q
      · exact .inl (Nat.mul_le_mul_left _ q)
    rcases this with q | q
    · have : c * (c + 2 * d) = c * c + 2 * (c * d) := by grind
      omega
    · have hd0 : d = 0 := by omega
      have hc : 4 ≤ c := by omega
      omega
  omega
theorem flat_len {α β : Type} (f : α → List β) (B : Nat) (h : ∀ a, (f a).length ≤ B) : ∀ l : List α, (l.flatMap f).length ≤ l.length * B
  | [] => by simp
  | a :: l => by
    have := flat_len f B h l
    have := h a
    rw [List.flatMap_cons, List.length_append, List.length_cons, Nat.add_mul, Nat.one_mul]; omega
theorem step_len (p steps : Nat) (loose : List Nat) (ls : List Line) : (elimStep p loose steps ls).length ≤ (noughts p ls).length + (above p ls).length * (below p ls).length := by
  unfold elimStep pairs
  rw [List.length_append]
  have := flat_len (fun h => ((below p ls).map (combine p h)).filter fun c => decide (partsUsed c loose ≤ steps + 2)) (below p ls).length (fun h => by
    have := List.length_filter_le (fun c => decide (partsUsed c loose ≤ steps + 2)) ((below p ls).map (combine p h))
    rwa [List.length_map] at this) (above p ls)
  omega
def NN : Nat → Nat
  | 0 => 7
  | 1 => 12
  | 2 => 36
  | 3 => 324
  | _ => 26244
theorem elim_cnt {loose : List Nat} {ls : List Line} (h : ls.length ≤ 7) : ∀ i, i < 4 → (elim loose ls i).2.1.length ≤ NN i ∧ (noughts i (elim loose ls i).2.1).length + (above i (elim loose ls i).2.1).length * (below i (elim loose ls i).2.1).length ≤ NN (i + 1) := by
  have st : ∀ i, (elim loose ls i).2.1.length ≤ NN i → 4 ≤ NN i → NN i * NN i ≤ 4 * NN (i + 1) + 3 → (noughts i (elim loose ls i).2.1).length + (above i (elim loose ls i).2.1).length * (below i (elim loose ls i).2.1).length ≤ NN (i + 1) := fun i h1 h2 h3 => by
    have h4 := three_parts i (elim loose ls i).2.1
    have h5 := quarter (Nat.le_trans h4 h1) h2
    omega
  have nx : ∀ i, (noughts i (elim loose ls i).2.1).length + (above i (elim loose ls i).2.1).length * (below i (elim loose ls i).2.1).length ≤ NN (i + 1) → (elim loose ls (i + 1)).2.1.length ≤ NN (i + 1) := fun i h1 => by
    rw [elim_succ]
    exact Nat.le_trans (step_len _ _ _ _) h1
  have a0 : (elim loose ls 0).2.1.length ≤ NN 0 := h
  have b0 := st 0 a0 (by decide) (by decide)
  have a1 := nx 0 b0
  have b1 := st 1 a1 (by decide) (by decide)
  have a2 := nx 1 b1
  have b2 := st 2 a2 (by decide) (by decide)
  have a3 := nx 2 b2
  have b3 := st 3 a3 (by decide) (by decide)
  intro i hi
  match i, hi with
  | 0, _ => exact ⟨a0, b0⟩
  | 1, _ => exact ⟨a1, b1⟩
  | 2, _ => exact ⟨a2, b2⟩
  | 3, _ => exact ⟨a3, b3⟩
/-! sizes of the filled numbers -/
def XS (W : Int) (φ t : Nat) (x : List Rat) : Prop := ∃ F : Int, F ≠ 0 ∧ F.natAbs < 2 ^ φ ∧ DnL (W * F) t x
theorem lim_sz {W F : Int} {w n K k c φ t t' p : Nat} {l : Line} {x : List Rat} (w0 : W ≠ 0) (w1 : W.natAbs < 2 ^ w) (f0 : F ≠ 0) (f1 : F.natAbs < 2 ^ φ) (hx : DnL (W * F) t x) (sl : Shp n K l) (h : LR W k c l) (hp : p < n) (h0 : getQ l.f p ≠ 0) (hn : n < 1000)
    (hk : k ≤ 1300) (hc : c ≤ 3000) (hkw : k + w ≤ 3000) (ht : t ≤ 4400) (h1 : c + φ + 1 ≤ t') (h2 : k + t + n + 1 ≤ t') (h3 : t' ≤ 4300) (h4 : k + (w + φ) ≤ 4300) :
    LimOk p l x ∧ ∃ z : Int, z ≠ 0 ∧ z.natAbs < 2 ^ k ∧ Dn (W * F * z) t' ((l.b - dotQ l.f x) / getQ l.f p) := by
  have ls := h.lineSm w0 w1 hk hc hkw
  obtain ⟨D, d0, d1, df, dm, db⟩ := h
  have wf0 := mul_ne w0 f0
  have wf1 := mulD w1 f1
  have dn0 := mul_ne d0 wf0
  have dn1 := mulD d1 wf1
  have b1 : Dn (D * (W * F)) (c + φ) l.b := by
    have := db.wide f1
    rwa [Int.mul_assoc] at this
  have b2 : Dn (D * (W * F)) (k + t + n) (dotQ l.f x) := df.dot hx (.inl (by rw [sl.1]; exact Nat.le_refl _))
  have b3 : Dn (D * (W * F)) t' (l.b - dotQ l.f x) := by
    have := (b1.mono (show c + φ ≤ t' - 1 by omega)).sub (b2.mono (show k + t + n ≤ t' - 1 by omega))
    rwa [Nat.sub_add_cancel (by omega)] at this
  refine ⟨⟨ls, hx.sm wf0 wf1 ht (by omega), (df.zip hx).sumOk dn0 dn1 (by rw [List.length_zipWith, sl.1]; omega) (by omega), b3.sm dn0 dn1 (by omega) (by omega), h0, by rw [sl.1]; exact hp, by rw [sl.1]; exact hn⟩, ?_⟩
  obtain ⟨z, hz, lz⟩ := df p
  have zne : z ≠ 0 := Dn.num_ne hz d0 h0
  refine ⟨z, zne, lz, ?_⟩
  obtain ⟨y, q, b⟩ := b3
  refine ⟨y, ?_, b⟩
  rw [← q, Rat.intCast_mul, Rat.intCast_mul D, ← hz]
  grind
theorem stage_sz {W : Int} {w n K k c φ t t' φ' p : Nat} {as bs : List Line} {x : List Rat} (w0 : W ≠ 0) (w1 : W.natAbs < 2 ^ w) (xl : x.length = n) (hx : XS W φ t x) (ha : ∀ l ∈ as, Shp n K l ∧ LR W k c l ∧ getQ l.f p ≠ 0) (hb : ∀ l ∈ bs, Shp n K l ∧ LR W k c l ∧ getQ l.f p ≠ 0) (la : as.length < 100000) (lb : bs.length < 100000) (hp : p < n) (hn : n < 1000)
    (hle : ∀ lo ∈ limits p bs x, ∀ hi ∈ limits p as x, lo ≤ hi)
    (hk : k ≤ 1300) (hc : c ≤ 3000) (hkw : k + w ≤ 3000) (ht : t ≤ 4400) (h1 : c + φ + 1 ≤ t') (h2 : k + t + n + 1 ≤ t') (h3 : t' + k + 1 ≤ 4300) (h4 : w + φ + k + k ≤ 4300) (h5 : φ + k ≤ φ') :
    p < x.length ∧ (∀ l ∈ as, LimOk p l x) ∧ (∀ l ∈ bs, LimOk p l x) ∧ ChosenOk (limits p bs x) (limits p as x) ∧ XS W φ' t' (fillStage x (p, as, bs)) := by
  obtain ⟨F, f0, f1, fx⟩ := hx
  have wf0 := mul_ne w0 f0
  have wf1 := mulD w1 f1
  have key : ∀ l : Line, Shp n K l ∧ LR W k c l ∧ getQ l.f p ≠ 0 → _ := fun l h => lim_sz w0 w1 f0 f1 fx h.1 h.2.1 hp h.2.2 hn hk hc hkw ht h1 h2 (by omega) (by omega)
  have qa : ∀ q ∈ limits p as x, ∃ z : Int, z ≠ 0 ∧ z.natAbs < 2 ^ k ∧ Dn (W * F * z) t' q := fun q hq => by
    obtain ⟨l, hl, rfl⟩ := List.mem_map.mp hq
    exact (key l (ha l hl)).2
  have qb : ∀ q ∈ limits p bs x, ∃ z : Int, z ≠ 0 ∧ z.natAbs < 2 ^ k ∧ Dn (W * F * z) t' q := fun q hq => by
    obtain ⟨l, hl, rfl⟩ := List.mem_map.mp hq
    exact (key l (hb l hl)).2
  have sm : ∀ q, (∃ z : Int, z ≠ 0 ∧ z.natAbs < 2 ^ k ∧ Dn (W * F * z) t' q) → Sm 4300 q := fun q ⟨z, a, b, d⟩ => d.sm (mul_ne wf0 a) (mulD wf1 b) (by omega) (by omega)
  have sm1 : ∀ q, (∃ z : Int, z ≠ 0 ∧ z.natAbs < 2 ^ k ∧ Dn (W * F * z) t' q) → Sm 4390 (q + 1) ∧ Sm 4390 (q - 1) := fun q h => by
    have h1 := (sm q h).add (Sm.one (k := 1) (by decide))
    have h2 := (sm q h).sub (Sm.one (k := 1) (by decide))
    exact ⟨h1.mono (by decide), h2.mono (by decide)⟩
  refine ⟨by omega, fun l hl => (key l (ha l hl)).1, fun l hl => (key l (hb l hl)).1, ⟨fun q hq => sm q (qb q hq), fun q hq => sm q (qa q hq), by unfold limits; rw [List.length_map]; exact lb, by unfold limits; rw [List.length_map]; exact la, fun n1 n2 => ?_, fun n1 => (sm1 _ (qb _ (greatest_mem n1))).1, fun n2 => (sm1 _ (qa _ (least_neg_mem n2))).2⟩, ?_⟩
  · obtain ⟨z, a1, a2, a3⟩ := qb _ (greatest_mem n1)
    obtain ⟨y, b1, b2, b3⟩ := qa _ (least_neg_mem n2)
    have c1 := a3.wide b2
    have c2 := b3.wide a2
    have e : W * F * y * z = W * F * z * y := by grind
    rw [e] at c2
    exact (c1.add c2).sm (mul_ne (mul_ne wf0 a1) b1) (mulD (mulD wf1 a2) b2) (by omega) (by omega)
  · have setv : ∀ v, (v = 0 ∨ ∃ z : Int, z ≠ 0 ∧ z.natAbs < 2 ^ k ∧ Dn (W * F * z) t' v) → XS W φ' t' (x.set p v) := fun v hv => by
      rcases hv with rfl | ⟨z, z0, z1, z2⟩
      · exact ⟨F, f0, monoD f1 (by omega), (fx.set0 p).mono (by omega)⟩
      · refine ⟨F * z, mul_ne f0 z0, monoD (mulD f1 z1) h5, fun i => ?_⟩
        rw [← Int.mul_assoc, getQ_set]
        split
        · exact z2
        · exact ((fx i).wide z1).mono (by omega)
    unfold fillStage
    simp only []
    refine setv _ ?_
    rcases (chosen_ok hle).2 with q | ⟨n1, q⟩ | ⟨n2, q⟩
    · exact .inl q
    · exact .inr (by rw [q]; exact qb _ (greatest_mem n1))
    · exact .inr (by rw [q]; exact qa _ (least_neg_mem n2))
/-! all stages -/
def ph : Nat → Nat
  | 0 => 800
  | 1 => 745
  | 2 => 638
  | 3 => 425
  | _ => 1
def tt : Nat → Nat
  | 0 => 2490
  | 1 => 2430
  | 2 => 2310
  | 3 => 2080
  | _ => 0
theorem tab : ∀ p, p < 4 → kk 52 p ≤ 1300 ∧ cc 52 1700 p ≤ 3000 ∧ kk 52 p + 1650 ≤ 3000 ∧ tt (p + 1) ≤ 4400 ∧ cc 52 1700 p + ph (p + 1) + 1 ≤ tt p ∧ kk 52 p + tt (p + 1) + 4 + 1 ≤ tt p ∧ tt p + kk 52 p + 1 ≤ 4300 ∧ 1650 + ph (p + 1) + kk 52 p + kk 52 p ≤ 4300 ∧ ph (p + 1) + kk 52 p ≤ ph p := by decide
theorem fill1_step {x : List Rat} {s : Nat × List Line × List Line} {r : List (Nat × List Line × List Line)} (h : s.1 < x.length ∧ (∀ l ∈ s.2.1, LimOk s.1 l x) ∧ (∀ l ∈ s.2.2, LimOk s.1 l x) ∧ ChosenOk (limits s.1 s.2.2 x) (limits s.1 s.2.1 x)) (g : fillOk1 (fillStage x s) r) : fillOk1 x (s :: r) := ⟨h.1, h.2.1, h.2.2.1, h.2.2.2, g⟩
section
variable (n K : Nat) (U : Nat → Bool) (F : Nat → Nat → Rat) (Bd : Nat → Rat)
theorem fm_sz {W : Int} (w0 : W ≠ 0) (w1 : W.natAbs < 2 ^ 1650) (hn : n ≤ 4) {loose : List Nat} (hl : loose = (List.range K).filter U) {ls : List Line} (I0 : Inv n K U F Bd [] ls) (hr : ∀ l ∈ ls, LR W 52 1700 l) (h7 : ls.length ≤ 7) : ∀ p, p ≤ n → ∀ x : List Rat, x.length = n → (∀ j, j < p → getQ x j = 0) → (∀ l ∈ (elim loose ls p).2.1, Sat n l (getQ x)) → XS W (ph p) (tt p) x →
    fillOk1 x (elim loose ls p).1.reverse ∧ XS W (ph 0) (tt 0) ((elim loose ls p).1.reverse.foldl fillStage x) ∧ ((elim loose ls p).1.reverse.foldl fillStage x).length = n
  | 0, _, x, xl, _, _, hx => ⟨trivial, hx, xl⟩
  | p + 1, hp, x, xl, x0, hs, hx => by
    obtain ⟨h1, hf⟩ := stage_fill n K U F Bd hl I0 (by omega : p < n) xl (x0 p (by omega)) hs
    have el := elim_LR (loose := loose) (fun l hl => (I0.rep l hl).shp) hr p
    have ec := elim_cnt (loose := loose) h7 p (by omega)
    have tb := tab p (by omega)
    have la : (above p (elim loose ls p).2.1).length < 100000 ∧ (below p (elim loose ls p).2.1).length < 100000 := by
      have h1 := three_parts p (elim loose ls p).2.1
      have h2 : NN p ≤ 324 := by
        match p, (show p < 4 by omega) with
        | 0, _ => decide
        | 1, _ => decide
        | 2, _ => decide
        | 3, _ => decide
      omega
    have S := stage_sz (φ' := ph p) (t' := tt p) w0 w1 xl hx (fun l hl => by
      obtain ⟨a, b⟩ := List.mem_filter.mp hl
      have := of_decide_eq_true b
      exact ⟨(el l a).1, (el l a).2, fun z => by rw [z] at this; exact absurd this (by decide)⟩) (fun l hl => by
      obtain ⟨a, b⟩ := List.mem_filter.mp hl
      have := of_decide_eq_true b
      exact ⟨(el l a).1, (el l a).2, fun z => by rw [z] at this; exact absurd this (by decide)⟩) la.1 la.2 (by omega) (by omega) h1 tb.1 tb.2.1 tb.2.2.1 tb.2.2.2.1 tb.2.2.2.2.1 (by omega) tb.2.2.2.2.2.2.1 tb.2.2.2.2.2.2.2.1 tb.2.2.2.2.2.2.2.2
    rw [elim_succ]
    simp only [List.reverse_append, List.reverse_cons, List.reverse_nil, List.nil_append, List.cons_append, List.foldl_cons]
    obtain ⟨r1, r2, r3⟩ := fm_sz w0 w1 hn hl I0 hr h7 p (by omega) (fillStage x (p, above p (elim loose ls p).2.1, below p (elim loose ls p).2.1)) (by unfold fillStage; rw [List.length_set]; exact xl) (fun j hj => by
      unfold fillStage
      simp only []
      rw [getQ_set, if_neg (fun q => by omega)]
      exact x0 j (by omega)) hf S.2.2.2.2
    exact ⟨fill1_step ⟨S.1, S.2.1, S.2.2.1, S.2.2.2.1⟩ r1, r2, r3⟩
theorem fm_all {W : Int} (w0 : W ≠ 0) (w1 : W.natAbs < 2 ^ 1650) (hn : n ≤ 4) {loose : List Nat} (hl : loose = (List.range K).filter U) {ls : List Line} (I0 : Inv n K U F Bd [] ls) (hr : ∀ l ∈ ls, LR W 52 1700 l) (h7 : ls.length ≤ 7) (hfin : ∀ l ∈ (elim loose ls n).2.1, 0 ≤ l.b) :
    fillOk1 (List.replicate n 0) (elim loose ls n).1.reverse ∧ XS W (ph 0) (tt 0) ((elim loose ls n).1.reverse.foldl fillStage (List.replicate n 0)) ∧ ((elim loose ls n).1.reverse.foldl fillStage (List.replicate n 0)).length = n := by
  obtain ⟨P, h1, h2, h3, h4⟩ := elim_inv n K U F Bd hl I0 n (Nat.le_refl _)
  refine fm_sz n K U F Bd w0 w1 hn hl I0 hr h7 n (Nat.le_refl _) _ (List.length_replicate ..) (fun j _ => getQ_rep n j) (fun l hm => ?_) ⟨1, by decide, ?_, fun i => by rw [getQ_rep]; exact Dn.zero _ _⟩
  · unfold Sat
    rw [S_zero_of fun j _ => by rw [getQ_rep]; grind]
    exact hfin l hm
  · show 1 < 2 ^ ph n
    have : 1 ≤ ph n := by
      match n, hn with
      | 0, _ => decide
      | 1, _ => decide
      | 2, _ => decide
      | 3, _ => decide
      | 4, _ => decide
    exact Nat.lt_of_lt_of_le (by decide) (Nat.pow_le_pow_right (by decide) this)
end
end Hq
end
section
set_option linter.all false
set_option maxHeartbeats 1000000
set_option exponentiation.threshold 100000
/-! rows whose equations have one variable each -/
namespace Hq
def rowAt (rows : List RowQ) (i : Nat) : RowQ := rows.getD i ⟨[], true, 0⟩
def loosU (rows : List RowQ) (i : Nat) : Bool := !((rows[i]?.map (·.eq)).getD true)
def lineAt (rows : List RowQ) (i : Nat) : Line := ⟨(rowAt rows i).f, (rowAt rows i).b, unitM rows.length i⟩
theorem looseOf_eq (rows : List RowQ) : looseOf rows = (List.range rows.length).filter (loosU rows) := rfl
theorem rowAt_get {rows : List RowQ} {i : Nat} (h : i < rows.length) : rows[i]? = some (rowAt rows i) := by
  unfold rowAt
  rw [List.getD_eq_getElem?_getD, List.getElem?_eq_getElem h]; rfl
theorem rowAt_mem {rows : List RowQ} {i : Nat} (h : i < rows.length) : rowAt rows i ∈ rows := List.mem_of_getElem? (rowAt_get h)
theorem loosU_at {rows : List RowQ} {i : Nat} (h : i < rows.length) : loosU rows i = !(rowAt rows i).eq := by
  unfold loosU
  rw [rowAt_get h]; rfl
theorem loosU_lt {rows : List RowQ} {i : Nat} (h : loosU rows i = true) : i < rows.length := by
  rcases Nat.lt_or_ge i rows.length with q | q
  · exact q
  · unfold loosU at h
    rw [List.getElem?_eq_none q] at h
    cases h
theorem begunL_mem {rows : List RowQ} {p : Line × Bool} : p ∈ begunL rows ↔ ∃ i, i < rows.length ∧ p = (lineAt rows i, (rowAt rows i).eq) := by
  unfold begunL
  rw [List.mem_map]
  constructor
  · rintro ⟨⟨r, i⟩, h, rfl⟩
    have h' : rows[i]? = some r := by simpa using List.mem_zipIdx_iff_getElem?.mp h
    have hi := (List.getElem?_eq_some_iff.mp h').1
    have e : rowAt rows i = r := by
      have := rowAt_get hi
      rw [h'] at this
      exact (Option.some.inj this).symm
    refine ⟨i, hi, ?_⟩
    unfold lineAt
    rw [e]
  · rintro ⟨i, hi, rfl⟩
    exact ⟨(rowAt rows i, i), List.mem_zipIdx_iff_getElem?.mpr (by simpa using rowAt_get hi), rfl⟩
theorem eqs_mem {rows : List RowQ} {l : Line} : l ∈ eqsOf rows ↔ ∃ i, i < rows.length ∧ (rowAt rows i).eq = true ∧ l = lineAt rows i := by
  unfold eqsOf
  rw [List.mem_map]
  constructor
  · rintro ⟨p, h, rfl⟩
    obtain ⟨h1, h2⟩ := List.mem_filter.mp h
    obtain ⟨i, hi, rfl⟩ := begunL_mem.mp h1
    exact ⟨i, hi, h2, rfl⟩
  · rintro ⟨i, hi, h, rfl⟩
    exact ⟨(lineAt rows i, (rowAt rows i).eq), List.mem_filter.mpr ⟨begunL_mem.mpr ⟨i, hi, rfl⟩, h⟩, rfl⟩
theorem others_mem {rows : List RowQ} {l : Line} : l ∈ othersOf rows ↔ ∃ i, i < rows.length ∧ loosU rows i = true ∧ l = lineAt rows i := by
  unfold othersOf
  rw [List.mem_map]
  constructor
  · rintro ⟨p, h, rfl⟩
    obtain ⟨h1, h2⟩ := List.mem_filter.mp h
    obtain ⟨i, hi, rfl⟩ := begunL_mem.mp h1
    exact ⟨i, hi, by rw [loosU_at hi]; exact h2, rfl⟩
  · rintro ⟨i, hi, h, rfl⟩
    exact ⟨(lineAt rows i, (rowAt rows i).eq), List.mem_filter.mpr ⟨begunL_mem.mpr ⟨i, hi, rfl⟩, by rw [loosU_at hi] at h; exact h⟩, rfl⟩
theorem others_len (rows : List RowQ) : (othersOf rows).length ≤ rows.length := by
  unfold othersOf
  rw [List.length_map]
  refine Nat.le_trans (List.length_filter_le _ _) ?_
  simp [begunL]
theorem unitM_get (n i j : Nat) : getQ (unitM n i) j = if j < n ∧ j = i then 1 else 0 := by
  unfold unitM
  by_cases h : j < n
  · rw [getQ_range _ _ _ h]
    by_cases e : j = i
    · rw [if_pos e, if_pos ⟨h, e⟩]
    · rw [if_neg e, if_neg (fun q => e q.2)]
  · rw [getQ_ge (by simp; omega), if_neg (fun q => h q.1)]
structure URows (n : Nat) (rows : List RowQ) : Prop where
  fl : ∀ r ∈ rows, r.f.length = n
  eq : ∀ r ∈ rows, r.eq = true → r.b = 0 ∧ ∃ a, a < n ∧ ∀ j, j < n → getQ r.f j = if j = a then 1 else 0
  diff : rows.Pairwise fun r s => r.eq = true → s.eq = true → ∀ a, getQ r.f a ≠ 0 → getQ s.f a = 0
theorem first_unit {n a : Nat} {e : Line} (ha : a < n) (h : ∀ j, j < n → getQ e.f j = if j = a then 1 else 0) : firstPlace n e = some a := by
  cases hf : firstPlace n e with
  | none =>
    have h1 := first_none hf a ha
    rw [h a ha, if_pos rfl] at h1
    exact absurd h1 (by decide)
  | some p =>
    obtain ⟨h1, h2⟩ := first_some hf
    rw [h p h1] at h2
    by_cases e : p = a
    · rw [e]
    · rw [if_neg e] at h2; exact absurd rfl h2
section
variable {n : Nat} {rows : List RowQ} (R : URows n rows)
include R
theorem line_shp {i : Nat} (hi : i < rows.length) : Shp n rows.length (lineAt rows i) := ⟨R.fl _ (rowAt_mem hi), by simp [lineAt, unitM]⟩
theorem eqs_unit : ∀ e ∈ eqsOf rows, UnitE n rows.length e := fun e he => by
  obtain ⟨i, hi, h, rfl⟩ := eqs_mem.mp he
  obtain ⟨b0, a, ha, hf⟩ := R.eq _ (rowAt_mem hi) h
  have fu : firstPlace n (lineAt rows i) = some a := first_unit ha hf
  have pa : plc n (lineAt rows i) = a := by unfold plc; rw [fu]; rfl
  refine ⟨line_shp R hi, by rw [pa]; exact ha, by rw [pa]; exact fu, fun j hj => by rw [pa]; exact hf j hj, b0, fun j => ?_⟩
  show getQ (unitM rows.length i) j = 0 ∨ getQ (unitM rows.length i) j = 1
  rw [unitM_get]
  split
  · exact .inr rfl
  · exact .inl rfl
theorem eqs_diff : Diff n (eqsOf rows) := by
  have pw : (begunL rows).Pairwise fun p q => p.2 = true → q.2 = true → ∀ a, getQ p.1.f a ≠ 0 → getQ q.1.f a = 0 := by
    unfold begunL
    rw [List.pairwise_map]
    have : (rows.zipIdx.map Prod.fst).Pairwise fun r s => r.eq = true → s.eq = true → ∀ a, getQ r.f a ≠ 0 → getQ s.f a = 0 := by
      have e : rows.zipIdx.map Prod.fst = rows := by simp
      rw [e]; exact R.diff
    rw [List.pairwise_map] at this
    exact this
  have hu := eqs_unit R
  unfold Diff
  unfold eqsOf at hu ⊢
  rw [List.pairwise_map]
  have pf := pw.filter fun p : Line × Bool => p.2
  refine pf.imp_of_mem fun {a b} ha hb h => ?_
  have ua := hu a.1 (List.mem_map.mpr ⟨a, ha, rfl⟩)
  refine h (List.mem_filter.mp ha).2 (List.mem_filter.mp hb).2 _ ?_
  rw [ua.f _ ua.lt, if_pos rfl]
  decide
theorem eqs_len : (eqsOf rows).length ≤ n := by
  have hu := eqs_unit R
  have hd := eqs_diff R
  have nd : ((eqsOf rows).map (plc n)).Nodup := by
    unfold List.Nodup
    rw [List.pairwise_map]
    unfold Diff at hd
    refine hd.imp_of_mem fun {a b} ha hb h e => ?_
    have ub := hu b hb
    rw [e, ub.f _ ub.lt, if_pos rfl] at h
    exact absurd h (by decide)
  have := List.Nodup.length_le_of_subset (l₂ := List.range n) nd fun a ha => by
    obtain ⟨e, he, rfl⟩ := List.mem_map.mp ha
    exact List.mem_range.mpr (hu e he).lt
  rwa [List.length_map, List.length_range] at this
/-- the places of the equations -/
theorem place_iff {j : Nat} (hj : j < n) : j ∈ (eqsOf rows).map (plc n) ↔ ∃ r ∈ rows, r.eq = true ∧ getQ r.f j ≠ 0 := by
  have hu := eqs_unit R
  rw [List.mem_map]
  constructor
  · rintro ⟨e, he, rfl⟩
    have ue := hu e he
    obtain ⟨i, hi, h, rfl⟩ := eqs_mem.mp he
    refine ⟨_, rowAt_mem hi, h, ?_⟩
    have := ue.f _ ue.lt
    rw [if_pos rfl] at this
    show getQ (lineAt rows i).f _ ≠ 0
    rw [this]; decide
  · rintro ⟨r, hr, h, hf⟩
    obtain ⟨i, hi, rfl⟩ := List.getElem_of_mem hr
    have e : rowAt rows i = rows[i] := by
      have := rowAt_get hi
      rw [List.getElem?_eq_getElem hi] at this
      exact (Option.some.inj this).symm
    rw [← e] at h hf
    have he : lineAt rows i ∈ eqsOf rows := eqs_mem.mpr ⟨i, hi, h, rfl⟩
    refine ⟨_, he, ?_⟩
    have ue := hu _ he
    have h1 := ue.f j hj
    by_cases q : j = plc n (lineAt rows i)
    · exact q.symm
    · rw [if_neg q] at h1
      exact absurd h1 hf
end
def FF (n : Nat) (rows : List RowQ) (i j : Nat) : Rat := if loosU rows i = true then (if j ∈ (eqsOf rows).map (plc n) then 0 else getQ (rowAt rows i).f j) else 0
def BB (rows : List RowQ) (i : Nat) : Rat := if loosU rows i = true then (rowAt rows i).b else 0
def redL (n : Nat) (rows : List RowQ) : List Line := (othersOf rows).map (red n (eqsOf rows))
section
variable {n : Nat} {rows : List RowQ} (R : URows n rows)
include R
theorem gauss_rows : gauss n (eqsOf rows) (othersOf rows) = ((eqsOf rows).map (fun e => (plc n e, e)), [], redL n rows) := gauss_unit _ _ (eqs_unit R) (eqs_diff R)
theorem red_at {i : Nat} (hi : i < rows.length) (hu : loosU rows i = true) : Shp n rows.length (red n (eqsOf rows) (lineAt rows i)) ∧ (red n (eqsOf rows) (lineAt rows i)).b = BB rows i ∧ (∀ j, j < n → getQ (red n (eqsOf rows) (lineAt rows i)).f j = FF n rows i j) ∧
    ∀ j, j < rows.length → loosU rows j = true → getQ (red n (eqsOf rows) (lineAt rows i)).m j = if j = i then 1 else 0 := by
  obtain ⟨a, b, c, d⟩ := red_all (eqsOf rows) (lineAt rows i) (eqs_unit R) (line_shp R hi)
  refine ⟨a, b.trans ?_, fun j hj => (c j hj).trans ?_, fun j hj hl => (d j hj fun e he => ?_).trans ?_⟩
  · unfold BB; rw [if_pos hu]; rfl
  · unfold FF; rw [if_pos hu]; rfl
  · obtain ⟨i', hi', h', rfl⟩ := eqs_mem.mp he
    show getQ (unitM rows.length i') j = 0
    rw [unitM_get, if_neg]
    rintro ⟨_, rfl⟩
    rw [loosU_at hj, h'] at hl
    cases hl
  · show getQ (unitM rows.length i) j = _
    rw [unitM_get]
    by_cases e : j = i
    · rw [if_pos ⟨hj, e⟩, if_pos e]
    · rw [if_neg (fun q => e q.2), if_neg e]
theorem inv0 : Inv n rows.length (loosU rows) (FF n rows) (BB rows) [] (redL n rows) := by
  have mem : ∀ l ∈ redL n rows, ∃ i, i < rows.length ∧ loosU rows i = true ∧ l = red n (eqsOf rows) (lineAt rows i) := fun l hl => by
    obtain ⟨l', h', rfl⟩ := List.mem_map.mp hl
    obtain ⟨i, hi, hu, rfl⟩ := others_mem.mp h'
    exact ⟨i, hi, hu, rfl⟩
  have one : ∀ i, i < rows.length → loosU rows i = true → ∀ g : Nat → Rat, (∀ j, loosU rows j = false → g j = 0) → S rows.length (fun j => getQ (red n (eqsOf rows) (lineAt rows i)).m j * g j) = g i := fun i hi hu g hg => by
    obtain ⟨_, _, _, d⟩ := red_at R hi hu
    rw [S_only (p := i) hi fun j hj hne => ?_]
    · rw [d i hi hu, if_pos rfl]; grind
    · cases e : loosU rows j with
      | true => rw [d j hj e, if_neg hne]; grind
      | false => rw [hg j e]; grind
  refine ⟨fun l hl => ?_, fun l _ q hq => (nomatch hq), fun μ hC x hs => ?_⟩
  · obtain ⟨i, hi, hu, rfl⟩ := mem l hl
    obtain ⟨a, b, c, d⟩ := red_at R hi hu
    refine ⟨a, fun j hj hl => ?_, fun j hj => ?_, ?_⟩
    · rw [d j hj hl]
      split <;> decide
    · rw [one i hi hu (fun i' => FF n rows i' j) (fun i' h' => by show FF n rows i' j = 0; unfold FF; rw [if_neg (by rw [h']; decide)]), c j hj]
    · rw [one i hi hu (BB rows) (fun i' h' => by unfold BB; rw [if_neg (by rw [h']; decide)]), b]
  · unfold val
    have : S rows.length (fun i => μ i * (S n (fun j => FF n rows i j * x j) - BB rows i)) ≤ S rows.length fun _ => 0 := S_le fun i hi => by
      cases hu : loosU rows i with
      | false =>
        have e1 : S n (fun j => FF n rows i j * x j) = 0 := S_zero_of fun j _ => by
          unfold FF
          rw [if_neg (by rw [hu]; decide)]; grind
        have e2 : BB rows i = 0 := by unfold BB; rw [if_neg (by rw [hu]; decide)]
        rw [e1, e2]; grind
      | true =>
        have h0 := hC.1 i hi hu
        by_cases hz : μ i = 0
        · rw [hz]; grind
        · obtain ⟨a, b, c, d⟩ := red_at R hi hu
          have hsat := hs (red n (eqsOf rows) (lineAt rows i)) (List.mem_map.mpr ⟨_, others_mem.mpr ⟨i, hi, hu, rfl⟩, rfl⟩) fun j hj hl hm => by
            rw [d j hj hl, if_neg (fun e => hz (by rw [← e]; exact hm))]
          unfold Sat at hsat
          rw [b, S_congr (g := fun j => FF n rows i j * x j) fun j hj => by rw [c j hj]] at hsat
          have := Rat.mul_nonneg h0 (show 0 ≤ BB rows i - S n (fun j => FF n rows i j * x j) by grind)
          grind
    rw [S_zero] at this
    exact this
theorem redL_len (h7 : rows.length ≤ 7) : (redL n rows).length ≤ 7 := by
  unfold redL
  rw [List.length_map]
  exact Nat.le_trans (others_len rows) h7
theorem redL_LR {W : Int} (hn : n ≤ 4) (hr : ∀ i, i < rows.length → loosU rows i = true → LR W 48 1700 (lineAt rows i)) : ∀ l ∈ redL n rows, LR W 52 1700 l := fun l hl => by
  obtain ⟨l', h', rfl⟩ := List.mem_map.mp hl
  obtain ⟨i, hi, hu, rfl⟩ := others_mem.mp h'
  have := red_LR (eqsOf rows) (lineAt rows i) 48 1700 (eqs_unit R) (line_shp R hi) (hr i hi hu)
  have h4 := eqs_len R
  exact this.mono (by omega) (Nat.le_refl _)
omit R in
theorem tabn : ∀ n, n < 5 → kk 52 n ≤ 1000 ∧ cc 52 1700 n ≤ 4400 := by decide
omit R in
theorem tabN : ∀ i, i < 4 → NN i < 100000 ∧ NN (i + 1) < 100000 := by decide
/-- all that solving asks, and what it gives -/
theorem rows_solve {W : Int} (w0 : W ≠ 0) (w1 : W.natAbs < 2 ^ 1650) (hn : n ≤ 4) (h7 : rows.length ≤ 7) (hr : ∀ i, i < rows.length → loosU rows i = true → LR W 48 1700 (lineAt rows i))
    (hfin : ∀ l ∈ (elim (looseOf rows) (redL n rows) n).2.1, 0 ≤ l.b) :
    gaussOk n (eqsOf rows) (othersOf rows) ∧ (∀ i, i < n → (∀ l ∈ (elim (looseOf rows) (redL n rows) i).2.1, LineSm l) ∧ (elim (looseOf rows) (redL n rows) i).2.1.length < 100000 ∧ (noughts i (elim (looseOf rows) (redL n rows) i).2.1).length + (above i (elim (looseOf rows) (redL n rows) i).2.1).length * (below i (elim (looseOf rows) (redL n rows) i).2.1).length < 100000) ∧
    (∀ l ∈ (elim (looseOf rows) (redL n rows) n).2.1, Sm 4400 l.b) ∧
    FillOk n ((eqsOf rows).map (fun e => (plc n e, e))) (elim (looseOf rows) (redL n rows) n).1 ∧
    (filledIn n ((eqsOf rows).map (fun e => (plc n e, e))) (elim (looseOf rows) (redL n rows) n).1).length = n ∧
    XS W 800 2490 (filledIn n ((eqsOf rows).map (fun e => (plc n e, e))) (elim (looseOf rows) (redL n rows) n).1) ∧
    (∀ j, j ∈ (eqsOf rows).map (plc n) → getQ (filledIn n ((eqsOf rows).map (fun e => (plc n e, e))) (elim (looseOf rows) (redL n rows) n).1) j = 0) ∧
    ∀ i, i < rows.length → loosU rows i = true → S n (fun j => getQ (rowAt rows i).f j * getQ (filledIn n ((eqsOf rows).map (fun e => (plc n e, e))) (elim (looseOf rows) (redL n rows) n).1) j) ≤ (rowAt rows i).b := by
  have hu := eqs_unit R
  have hd := eqs_diff R
  have h4 := eqs_len R
  have I0 := inv0 R
  have rl := redL_LR R hn hr
  have l7 := redL_len R h7
  have el := elim_LR (loose := looseOf rows) (fun l hl => (I0.rep l hl).shp) rl
  obtain ⟨f1, ⟨F, f0, fb, fx⟩, f3⟩ := fm_all n rows.length (loosU rows) (FF n rows) (BB rows) w0 w1 hn (looseOf_eq rows) I0 rl l7 hfin
  have sat := fm_solve n rows.length (loosU rows) (FF n rows) (BB rows) (looseOf_eq rows) I0 hfin
  have wf0 := mul_ne w0 f0
  have wf1 := mulD w1 fb
  have us := unit_fills (by omega) (eqsOf rows).reverse _ (fun e he => hu e (List.mem_reverse.mp he)) f3 (fx.sm wf0 wf1 (by decide) (by decide))
  rw [List.map_reverse] at us
  have mr : ∀ j, j ∈ (eqsOf rows).reverse.map (plc n) ↔ j ∈ (eqsOf rows).map (plc n) := fun j => by rw [List.map_reverse, List.mem_reverse]
  have get : ∀ j, getQ (filledIn n ((eqsOf rows).map (fun e => (plc n e, e))) (elim (looseOf rows) (redL n rows) n).1) j = if j ∈ (eqsOf rows).map (plc n) then 0 else getQ ((elim (looseOf rows) (redL n rows) n).1.reverse.foldl fillStage (List.replicate n 0)) j := fun j => by
    have := us.2.2 j
    by_cases e : j ∈ (eqsOf rows).map (plc n)
    · rw [if_pos e]
      rw [if_pos ((mr j).mpr e)] at this
      exact this
    · rw [if_neg e]
      rw [if_neg (fun q => e ((mr j).mp q))] at this
      exact this
  refine ⟨unit_gaussOk w0 w1 _ _ 48 1700 hu hd (fun l hl => ?_) (fun l hl => ?_) (by omega) (by decide) (by omega), fun i hi => ?_, fun l hl => ?_, ⟨f1, us.1⟩, us.2.1, ⟨F, f0, fb, fun j => ?_⟩, fun j hj => by rw [get, if_pos hj], fun i hi hl => ?_⟩
  · obtain ⟨i, hi, _, rfl⟩ := others_mem.mp hl
    exact line_shp R hi
  · obtain ⟨i, hi, h, rfl⟩ := others_mem.mp hl
    exact hr i hi h
  · have tb := tab i (by omega)
    have ec := elim_cnt (loose := looseOf rows) l7 i (by omega)
    have b1 := tabN i (by omega)
    exact ⟨fun l hl => (el i l hl).2.lineSm w0 w1 tb.1 tb.2.1 tb.2.2.1, by omega, by omega⟩
  · obtain ⟨D, d0, d1, _, _, db⟩ := (el n l hl).2
    have b1 := tabn n (by omega)
    exact db.sm (mul_ne d0 w0) (mulD d1 w1) b1.2 (by omega)
  · rw [get]
    split
    · exact Dn.zero _ _
    · exact fx j
  · have hs := sat (red n (eqsOf rows) (lineAt rows i)) (List.mem_map.mpr ⟨_, others_mem.mpr ⟨i, hi, hl, rfl⟩, rfl⟩)
    obtain ⟨a, b, c, d⟩ := red_at R hi hl
    unfold Sat at hs
    rw [b] at hs
    have e1 : BB rows i = (rowAt rows i).b := by unfold BB; rw [if_pos hl]
    rw [e1] at hs
    have e2 : S n (fun j => getQ (rowAt rows i).f j * getQ (filledIn n ((eqsOf rows).map (fun e => (plc n e, e))) (elim (looseOf rows) (redL n rows) n).1) j) = S n (fun j => getQ (red n (eqsOf rows) (lineAt rows i)).f j * getQ ((elim (looseOf rows) (redL n rows) n).1.reverse.foldl fillStage (List.replicate n 0)) j) := S_congr fun j hj => by
      rw [get, c j hj]
      unfold FF
      rw [if_pos hl]
      by_cases e : j ∈ (eqsOf rows).map (plc n)
      · rw [if_pos e, if_pos e]; grind
      · rw [if_neg e, if_neg e]
    rw [e2]
    exact hs
end
end Hq
end
section
set_option linter.all false
set_option maxHeartbeats 1000000
set_option exponentiation.threshold 100000
/-! the rows of a covering -/
namespace Hq
theorem S_app (f : Nat → Rat) (r : Nat) : ∀ c, S (r + c) f = S r f + S c fun i => f (r + i)
  | 0 => by
    show S r f = S r f + 0
    grind
  | c + 1 => by
    show S (r + c) f + f (r + c) = S r f + (S c (fun i => f (r + i)) + f (r + c))
    rw [S_app f r c]; grind
theorem alone_get {n a j : Nat} {c : Rat} (h : j < n) : getQ (aloneQ n a c) j = if j = a then c else 0 := by
  unfold aloneQ
  rw [getQ_range _ _ _ h]
theorem rowAt_l {a b : List RowQ} {i : Nat} (h : i < a.length) : rowAt (a ++ b) i = rowAt a i := by
  unfold rowAt
  rw [List.getD_eq_getElem?_getD, List.getD_eq_getElem?_getD, List.getElem?_append_left h]
theorem rowAt_r {a b : List RowQ} {i : Nat} : rowAt (a ++ b) (a.length + i) = rowAt b i := by
  unfold rowAt
  rw [List.getD_eq_getElem?_getD, List.getD_eq_getElem?_getD, List.getElem?_append_right (by omega), Nat.add_sub_cancel_left]
section
variable {m : Market} {k : Nat} (hr : (nodeAt m k).rules.length = m.many)
include hr
theorem rule_mem {r : RowQ} : r ∈ ruleRows m k ↔ ∃ a, a < m.many ∧ r ∈ ruleRow m.many (ruleA m k a, a) := by
  unfold ruleRows
  rw [List.mem_flatMap]
  constructor
  · rintro ⟨⟨q, a⟩, h, h2⟩
    have h' : (nodeAt m k).rules[a]? = some q := by simpa using List.mem_zipIdx_iff_getElem?.mp h
    have ha := (List.getElem?_eq_some_iff.mp h').1
    have e := ruleA_at ha
    rw [h'] at e
    rw [Option.some.inj e] at h2
    exact ⟨a, by omega, h2⟩
  · rintro ⟨a, ha, h⟩
    exact ⟨(ruleA m k a, a), List.mem_zipIdx_iff_getElem?.mpr (by simpa using ruleA_at (by omega)), h⟩
theorem rule_rows_len : (ruleRows m k).length ≤ m.many := by
  unfold ruleRows
  have := flat_len (ruleRow m.many) 1 (fun p => by
    unfold ruleRow
    split <;> simp) (nodeAt m k).rules.zipIdx
  rw [List.length_zipIdx] at this
  omega
/-- one row of a rule -/
theorem rule_row {r : RowQ} (h : r ∈ ruleRows m k) : ∃ a, a < m.many ∧ r.b = 0 ∧ ((ruleA m k a = .long ∧ r.eq = false ∧ r.f = aloneQ m.many a (-1)) ∨ (ruleA m k a = .short ∧ r.eq = false ∧ r.f = aloneQ m.many a 1) ∨ (ruleA m k a = .none_ ∧ r.eq = true ∧ r.f = aloneQ m.many a 1)) := by
  obtain ⟨a, ha, h⟩ := (rule_mem hr).mp h
  refine ⟨a, ha, ?_⟩
  unfold ruleRow at h
  simp only [] at h
  cases e : ruleA m k a with
  | any => rw [e] at h; cases h
  | long =>
    rw [e] at h
    have := List.mem_singleton.mp h
    rw [this]
    exact ⟨rfl, .inl ⟨rfl, rfl, rfl⟩⟩
  | short =>
    rw [e] at h
    have := List.mem_singleton.mp h
    rw [this]
    exact ⟨rfl, .inr (.inl ⟨rfl, rfl, rfl⟩)⟩
  | none_ =>
    rw [e] at h
    have := List.mem_singleton.mp h
    rw [this]
    exact ⟨rfl, .inr (.inr ⟨rfl, rfl, rfl⟩)⟩
omit hr in
theorem win_len {bs : List Rat} (hb : bs.length = (kids m k).length) : (winRows m k bs).length = (kids m k).length := by
  unfold winRows
  rw [List.length_map, List.length_zip, gains_len]; omega
omit hr in
theorem win_at {bs : List Rat} (hb : bs.length = (kids m k).length) {c : Nat} (hc : c < (kids m k).length) : rowAt (winRows m k bs) c = ⟨((gains m k).getD c []).map fun q => 0 - q, false, 0 - getQ bs c⟩ := by
  unfold rowAt winRows
  have h1 : c < (gains m k).length := by rw [gains_len]; exact hc
  have h2 : c < bs.length := by omega
  rw [List.getD_eq_getElem?_getD, List.getElem?_map, List.getElem?_eq_getElem (by rw [List.length_zip]; omega), List.getElem_zip]
  simp only [Option.map_some, Option.getD_some]
  rw [getQ_lt h2, List.getD_eq_getElem?_getD, List.getElem?_eq_getElem h1]
  rfl
omit hr in
theorem gain_len {c : Nat} (hc : c < (kids m k).length) : ((gains m k).getD c []).length = m.many := by
  have h1 : c < (gains m k).length := by rw [gains_len]; exact hc
  rw [List.getD_eq_getElem?_getD, List.getElem?_eq_getElem h1]
  have : (gains m k)[c] = gainsIn m k ((kids m k)[c]) := by simp [gains]
  rw [Option.getD_some, this]
  simp [gainsIn]
omit hr in
theorem win_row {bs : List Rat} {r : RowQ} (hb : bs.length = (kids m k).length) (h : r ∈ winRows m k bs) : ∃ c, c < (kids m k).length ∧ r = ⟨((gains m k).getD c []).map fun q => 0 - q, false, 0 - getQ bs c⟩ := by
  obtain ⟨i, hi, rfl⟩ := List.getElem_of_mem h
  rw [win_len hb] at hi
  refine ⟨i, hi, ?_⟩
  rw [← win_at hb hi]
  have := rowAt_get (rows := winRows m k bs) (by rw [win_len hb]; exact hi)
  rw [List.getElem?_eq_getElem (by rw [win_len hb]; exact hi)] at this
  exact Option.some.inj this
theorem cov_U {bs : List Rat} (hb : bs.length = (kids m k).length) : URows m.many (ruleRows m k ++ winRows m k bs) := by
  have wf : ∀ r ∈ winRows m k bs, r.f.length = m.many ∧ r.eq = false := fun r h => by
    obtain ⟨c, hc, rfl⟩ := win_row hb h
    exact ⟨by rw [List.length_map, gain_len hc], rfl⟩
  refine ⟨fun r h => ?_, fun r h he => ?_, ?_⟩
  · rcases List.mem_append.mp h with q | q
    · obtain ⟨a, ha, _, q⟩ := rule_row hr q
      rcases q with ⟨_, _, e⟩ | ⟨_, _, e⟩ | ⟨_, _, e⟩ <;> rw [e] <;> simp [aloneQ]
    · exact (wf r q).1
  · rcases List.mem_append.mp h with q | q
    · obtain ⟨a, ha, b0, q⟩ := rule_row hr q
      refine ⟨b0, a, ha, fun j hj => ?_⟩
      rcases q with ⟨_, z, e⟩ | ⟨_, z, e⟩ | ⟨_, z, e⟩
      · rw [he] at z; cases z
      · rw [he] at z; cases z
      · rw [e, alone_get hj]
    · rw [(wf r q).2] at he; cases he
  · rw [List.pairwise_append]
    refine ⟨?_, ?_, fun r _ s hs h1 h2 => ?_⟩
    · unfold ruleRows
      rw [List.pairwise_flatMap]
      refine ⟨fun p _ => ?_, ?_⟩
      · unfold ruleRow
        split <;> simp
      · have nd : ((nodeAt m k).rules.zipIdx.map Prod.snd).Pairwise (· ≠ ·) := by
          rw [List.zipIdx_map_snd]
          exact List.nodup_range'
        rw [List.pairwise_map] at nd
        refine nd.imp fun {p q} hpq r hrp s hsq h1 h2 a ha => ?_
        have f1 : r.f = aloneQ m.many p.2 1 := by
          unfold ruleRow at hrp
          split at hrp
          · rw [List.mem_singleton.mp hrp] at h1; cases h1
          · rw [List.mem_singleton.mp hrp] at h1; cases h1
          · rw [List.mem_singleton.mp hrp]
          · cases hrp
        have f2 : s.f = aloneQ m.many q.2 1 := by
          unfold ruleRow at hsq
          split at hsq
          · rw [List.mem_singleton.mp hsq] at h2; cases h2
          · rw [List.mem_singleton.mp hsq] at h2; cases h2
          · rw [List.mem_singleton.mp hsq]
          · cases hsq
        rw [f1] at ha
        rw [f2]
        by_cases hn : a < m.many
        · rw [alone_get hn] at ha ⊢
          by_cases e : a = p.2
          · rw [if_neg (fun z => hpq (by rw [← e, ← z]))]
          · rw [if_neg e] at ha; exact absurd rfl ha
        · exact getQ_ge (by simp [aloneQ]; omega)
    · exact List.pairwise_iff_getElem.mpr fun i j hi hj _ h1 => by
        rw [(wf _ (List.getElem_mem hi)).2] at h1; cases h1
    · rw [(wf s hs).2] at h2; cases h2
theorem cov_place {bs : List Rat} (hb : bs.length = (kids m k).length) {j : Nat} (hj : j < m.many) : j ∈ (eqsOf (ruleRows m k ++ winRows m k bs)).map (plc m.many) ↔ ruleA m k j = .none_ := by
  rw [place_iff (cov_U hr hb) hj]
  constructor
  · rintro ⟨r, h, he, hf⟩
    rcases List.mem_append.mp h with q | q
    · obtain ⟨a, ha, _, q⟩ := rule_row hr q
      rcases q with ⟨_, z, e⟩ | ⟨_, z, e⟩ | ⟨y, z, e⟩
      · rw [he] at z; cases z
      · rw [he] at z; cases z
      · rw [e, alone_get hj] at hf
        by_cases x : j = a
        · rw [x]; exact y
        · rw [if_neg x] at hf; exact absurd rfl hf
    · obtain ⟨c, hc, rfl⟩ := win_row hb q
      cases he
  · intro h
    refine ⟨⟨aloneQ m.many j 1, true, 0⟩, List.mem_append_left _ ((rule_mem hr).mpr ⟨j, hj, by unfold ruleRow; rw [h]; exact List.mem_singleton.mpr rfl⟩), rfl, ?_⟩
    show getQ (aloneQ m.many j 1) j ≠ 0
    rw [alone_get hj, if_pos rfl]; decide
/-- the sign of the factors of the rules' rows -/
theorem rule_FF {bs : List Rat} (hb : bs.length = (kids m k).length) {i j : Nat} (hi : i < (ruleRows m k).length) (hj : j < m.many) :
    (ruleA m k j = .any → FF m.many (ruleRows m k ++ winRows m k bs) i j = 0) ∧ (ruleA m k j = .long → FF m.many (ruleRows m k ++ winRows m k bs) i j ≤ 0) ∧ (ruleA m k j = .short → 0 ≤ FF m.many (ruleRows m k ++ winRows m k bs) i j) := by
  have hl : i < (ruleRows m k ++ winRows m k bs).length := by rw [List.length_append]; omega
  have hm : rowAt (ruleRows m k ++ winRows m k bs) i ∈ ruleRows m k := by rw [rowAt_l hi]; exact rowAt_mem hi
  unfold FF
  cases hu : loosU (ruleRows m k ++ winRows m k bs) i with
  | false => simp
  | true =>
    rw [if_pos rfl]
    obtain ⟨a, ha, b0, q⟩ := rule_row hr hm
    rw [loosU_at hl] at hu
    have pl := cov_place hr hb hj
    rcases q with ⟨y, z, e⟩ | ⟨y, z, e⟩ | ⟨y, z, e⟩
    · rw [e, alone_get hj]
      refine ⟨fun h => ?_, fun h => ?_, fun h => ?_⟩
      · split
        · first | rfl | decide
        · rw [if_neg (fun x => by rw [x, y] at h; cases h)] <;> decide
      · split
        · decide
        · split <;> decide
      · split
        · first | rfl | decide
        · rw [if_neg (fun x => by rw [x, y] at h; cases h)] <;> decide
    · rw [e, alone_get hj]
      refine ⟨fun h => ?_, fun h => ?_, fun h => ?_⟩
      · split
        · first | rfl | decide
        · rw [if_neg (fun x => by rw [x, y] at h; cases h)] <;> decide
      · split
        · first | rfl | decide
        · rw [if_neg (fun x => by rw [x, y] at h; cases h)] <;> decide
      · split
        · decide
        · split <;> decide
    · rw [z] at hu; cases hu
theorem rule_BB {bs : List Rat} {i : Nat} (hi : i < (ruleRows m k).length) : BB (ruleRows m k ++ winRows m k bs) i = 0 := by
  have hm : rowAt (ruleRows m k ++ winRows m k bs) i ∈ ruleRows m k := by rw [rowAt_l hi]; exact rowAt_mem hi
  obtain ⟨a, ha, b0, _⟩ := rule_row hr hm
  unfold BB
  rw [b0]
  split <;> rfl
omit hr in
theorem win_loos {bs : List Rat} (hb : bs.length = (kids m k).length) {c : Nat} (hc : c < (kids m k).length) : (ruleRows m k).length + c < (ruleRows m k ++ winRows m k bs).length ∧ loosU (ruleRows m k ++ winRows m k bs) ((ruleRows m k).length + c) = true ∧ rowAt (ruleRows m k ++ winRows m k bs) ((ruleRows m k).length + c) = ⟨((gains m k).getD c []).map fun q => 0 - q, false, 0 - getQ bs c⟩ := by
  have h1 : (ruleRows m k).length + c < (ruleRows m k ++ winRows m k bs).length := by rw [List.length_append, win_len hb]; omega
  have h2 : rowAt (ruleRows m k ++ winRows m k bs) ((ruleRows m k).length + c) = ⟨((gains m k).getD c []).map fun q => 0 - q, false, 0 - getQ bs c⟩ := by rw [rowAt_r, win_at hb hc]
  exact ⟨h1, by rw [loosU_at h1, h2]; rfl, h2⟩
/-- the last lines hold: their multipliers are weights, or nothing -/
theorem cov_fin {v bs : List Rat} {M : Rat} (hb : bs.length = (kids m k).length) (hbv : ∀ c, c < (kids m k).length → getQ bs c = getQ v c - M)
    (hM : ∀ x : Nat → Rat, FW (kids m k).length m.many (Gm m k) (ruleA m k) x → S (kids m k).length (fun c => x c * getQ v c) ≤ M) :
    ∀ l ∈ (elim (looseOf (ruleRows m k ++ winRows m k bs)) (redL m.many (ruleRows m k ++ winRows m k bs)) m.many).2.1, 0 ≤ l.b := by
  intro l hl
  have U := cov_U hr hb
  have I0 := inv0 U
  obtain ⟨P, _, _, I, h4⟩ := elim_inv m.many (ruleRows m k ++ winRows m k bs).length (loosU (ruleRows m k ++ winRows m k bs)) (FF m.many (ruleRows m k ++ winRows m k bs)) (BB (ruleRows m k ++ winRows m k bs)) (looseOf_eq _) I0 m.many (Nat.le_refl _)
  have rp := I.rep l hl
  have f0 := h4 l hl
  have rK : (ruleRows m k ++ winRows m k bs).length = (ruleRows m k).length + (kids m k).length := by rw [List.length_append, win_len hb]
  let lam : Nat → Rat := fun c => getQ l.m ((ruleRows m k).length + c)
  have lpos : ∀ c, c < (kids m k).length → 0 ≤ lam c := fun c hc => by
    obtain ⟨a, b, _⟩ := win_loos hb hc
    exact rp.pos _ a b
  have hbsum : l.b = S (kids m k).length (fun c => lam c * (0 - (getQ v c - M))) := by
    rw [rp.b, rK, S_app, S_zero_of (f := fun i => getQ l.m i * BB (ruleRows m k ++ winRows m k bs) i) (n := (ruleRows m k).length) (fun i hi => by
      rw [rule_BB hr hi]; grind)]
    rw [Rat.zero_add]
    refine S_congr fun c hc => ?_
    obtain ⟨a, b, e⟩ := win_loos hb hc
    unfold BB
    rw [if_pos b, e]
    show lam c * (0 - getQ bs c) = _
    rw [hbv c hc]
  have means : ∀ j, j < m.many → ruleA m k j ≠ .none_ → meanF (kids m k).length (Gm m k) lam j = S (ruleRows m k).length fun i => getQ l.m i * FF m.many (ruleRows m k ++ winRows m k bs) i j := fun j hj hne => by
    have h1 := rp.f j hj
    rw [f0 j hj, rK, S_app] at h1
    have h2 : S (kids m k).length (fun i => getQ l.m ((ruleRows m k).length + i) * FF m.many (ruleRows m k ++ winRows m k bs) ((ruleRows m k).length + i) j) = (-1) * meanF (kids m k).length (Gm m k) lam j := by
      unfold meanF
      rw [← S_mul]
      refine S_congr fun c hc => ?_
      obtain ⟨a, b, e⟩ := win_loos hb hc
      unfold FF
      rw [if_pos b, if_neg (fun z => hne ((cov_place hr hb hj).mp z)), e]
      show lam c * getQ (((gains m k).getD c []).map fun q => 0 - q) j = -1 * (lam c * Gm m k c j)
      rw [getQ_map0 _ (by grind)]
      unfold Gm
      grind
    rw [h2] at h1
    grind
  have mpos : ∀ i, i < (ruleRows m k).length → ∀ j, loosU (ruleRows m k ++ winRows m k bs) i = true ∨ FF m.many (ruleRows m k ++ winRows m k bs) i j = 0 := fun i hi j => by
    cases e : loosU (ruleRows m k ++ winRows m k bs) i with
    | true => exact .inl rfl
    | false => exact .inr (by unfold FF; rw [if_neg (by rw [e]; decide)])
  have mi : ∀ i, i < (ruleRows m k).length → loosU (ruleRows m k ++ winRows m k bs) i = true → 0 ≤ getQ l.m i := fun i hi h => rp.pos i (by omega) h
  have signs : ∀ j, j < m.many → isMean (ruleA m k j) (meanF (kids m k).length (Gm m k) lam j) = true := fun j hj => by
    cases e : ruleA m k j with
    | none_ => rfl
    | any =>
      refine decide_eq_true ?_
      rw [means j hj (by rw [e]; decide)]
      exact S_zero_of fun i hi => by rw [(rule_FF hr hb hi hj).1 e]; grind
    | long =>
      refine decide_eq_true ?_
      rw [means j hj (by rw [e]; decide)]
      have := S_le (f := fun i => getQ l.m i * FF m.many (ruleRows m k ++ winRows m k bs) i j) (g := fun _ => 0) (n := (ruleRows m k).length) fun i hi => by
        have h2 := (rule_FF hr hb hi hj).2.1 e
        rcases mpos i hi j with q | q
        · have := Rat.mul_nonneg (mi i hi q) (show 0 ≤ -(FF m.many (ruleRows m k ++ winRows m k bs) i j) by grind)
          grind
        · rw [q]; grind
      rwa [S_zero] at this
    | short =>
      refine decide_eq_true ?_
      rw [means j hj (by rw [e]; decide)]
      refine S_nonneg fun i hi => ?_
      have h2 := (rule_FF hr hb hi hj).2.2 e
      rcases mpos i hi j with q | q
      · exact Rat.mul_nonneg (mi i hi q) h2
      · rw [q]; grind
  have Lnn : 0 ≤ S (kids m k).length lam := S_nonneg lpos
  have hb2 : l.b = S (kids m k).length lam * M - S (kids m k).length (fun c => lam c * getQ v c) := by
    rw [hbsum]
    have : S (kids m k).length (fun c => lam c * (0 - (getQ v c - M))) = S (kids m k).length (fun c => M * lam c + (-1) * (lam c * getQ v c)) := S_congr fun c _ => by grind
    rw [this, S_add, S_mul, S_mul]; grind
  by_cases hz : S (kids m k).length lam = 0
  · have l0 : ∀ c, c < (kids m k).length → lam c = 0 := fun c hc => by
      by_cases q : lam c = 0
      · exact q
      · have := S_pos_of lpos hc (by have := lpos c hc; grind)
        rw [hz] at this
        exact absurd this (by decide)
    rw [hbsum, S_zero_of fun c hc => by rw [l0 c hc]; grind]
    decide
  · have Lp : 0 < S (kids m k).length lam := by grind
    have ip := Rat.inv_pos.mpr Lp
    have h1 : S (kids m k).length lam * (S (kids m k).length lam)⁻¹ = 1 := Rat.mul_inv_cancel _ hz
    generalize hL : S (kids m k).length lam = L at *
    have mm : ∀ a, meanF (kids m k).length (Gm m k) (fun c => L⁻¹ * lam c) a = L⁻¹ * meanF (kids m k).length (Gm m k) lam a := fun a => by
      unfold meanF
      rw [← S_mul]
      exact S_congr fun c _ => by grind
    have fw : FW (kids m k).length m.many (Gm m k) (ruleA m k) (fun c => L⁻¹ * lam c) := by
      refine ⟨fun c hc => Rat.mul_nonneg (by grind) (lpos c hc), by rw [S_mul, hL]; grind, fun a ha => ?_⟩
      rw [mm]
      have sg := signs a ha
      cases e : ruleA m k a with
      | none_ => rfl
      | any =>
        rw [e] at sg
        have := of_decide_eq_true sg
        refine decide_eq_true ?_
        rw [this]; grind
      | long =>
        rw [e] at sg
        have := of_decide_eq_true sg
        refine decide_eq_true ?_
        have := Rat.mul_nonneg (show 0 ≤ L⁻¹ by grind) (show 0 ≤ -(meanF (kids m k).length (Gm m k) lam a) by grind)
        grind
      | short =>
        rw [e] at sg
        have := of_decide_eq_true sg
        exact decide_eq_true (Rat.mul_nonneg (by grind) this)
    have h2 := hM _ fw
    have e2 : S (kids m k).length (fun c => L⁻¹ * lam c * getQ v c) = L⁻¹ * S (kids m k).length (fun c => lam c * getQ v c) := by
      rw [← S_mul]
      exact S_congr fun c _ => by grind
    rw [e2] at h2
    rw [hb2]
    have h3 := Rat.mul_nonneg (show 0 ≤ L by grind) (show 0 ≤ M - L⁻¹ * S (kids m k).length (fun c => lam c * getQ v c) by grind)
    generalize S (kids m k).length (fun c => lam c * getQ v c) = q at *
    have : L * (L⁻¹ * q) = q := by
      rw [← Rat.mul_assoc, h1, Rat.one_mul]
    grind
end
end Hq
end
section
set_option linter.all false
set_option maxHeartbeats 1000000
set_option exponentiation.threshold 100000
/-! covering, and the best weights -/
namespace Hq
def solR (n : Nat) (rows : List RowQ) : List Rat := filledIn n (gauss n (eqsOf rows) (othersOf rows)).1 (elim (looseOf rows) (gauss n (eqsOf rows) (othersOf rows)).2.2 n).1
structure CovAll (m : Market) (k : Nat) (v : List Rat) (M : Rat) (W : Int) (rows : List RowQ) : Prop where
  fl : ∀ r ∈ rows, r.f.length = m.many
  rl : rows.length ≤ 7
  gok : gaussOk m.many (eqsOf rows) (othersOf rows)
  left : ∀ l ∈ (gauss m.many (eqsOf rows) (othersOf rows)).2.1, l.b = 0
  eok : ∀ i, i < m.many → (∀ l ∈ (elim (looseOf rows) (gauss m.many (eqsOf rows) (othersOf rows)).2.2 i).2.1, LineSm l) ∧ (elim (looseOf rows) (gauss m.many (eqsOf rows) (othersOf rows)).2.2 i).2.1.length < 100000 ∧ (noughts i (elim (looseOf rows) (gauss m.many (eqsOf rows) (othersOf rows)).2.2 i).2.1).length + (above i (elim (looseOf rows) (gauss m.many (eqsOf rows) (othersOf rows)).2.2 i).2.1).length * (below i (elim (looseOf rows) (gauss m.many (eqsOf rows) (othersOf rows)).2.2 i).2.1).length < 100000
  fin : ∀ l ∈ (elim (looseOf rows) (gauss m.many (eqsOf rows) (othersOf rows)).2.2 m.many).2.1, 0 ≤ l.b ∧ Sm 4400 l.b
  fil : FillOk m.many (gauss m.many (eqsOf rows) (othersOf rows)).1 (elim (looseOf rows) (gauss m.many (eqsOf rows) (othersOf rows)).2.2 m.many).1
  sl : (solR m.many rows).length = m.many
  sx : XS W 800 2490 (solR m.many rows)
  cov : ∀ c, c < (kids m k).length → getQ v c ≤ M + S m.many (fun j => getQ (solR m.many rows) j * Gm m k c j)
  kp : ∀ a, a < m.many → (ruleA m k a = .long → 0 ≤ getQ (solR m.many rows) a) ∧ (ruleA m k a = .short → getQ (solR m.many rows) a ≤ 0) ∧ (ruleA m k a = .none_ → getQ (solR m.many rows) a = 0)
theorem dn_pm {q : Rat} (h : q = 0 ∨ q = 1 ∨ q = -1) : Dn 1 48 q := by
  rcases h with h | h | h
  · rw [h]; exact Dn.zero _ _
  · rw [h]; exact Dn.one_.mono (by decide)
  · rw [h]; exact (Dn.one_.mono (by decide)).neg
theorem unitM_DL {D : Int} (h : D.natAbs < 2 ^ 48) (n i : Nat) : DnL D 48 (unitM n i) := fun j => by
  rw [unitM_get]
  split
  · exact ⟨D, by grind, h⟩
  · exact Dn.zero _ _
theorem cov_all {m : Market} {k : Nat} {E W : Int} {v : List Rat} {w M : Rat} (B : GB m k E) (w0 : W ≠ 0) (w1 : W.natAbs < 2 ^ 1650) (hv : v.length = (kids m k).length) (hw : (nodeAt m k).g * w = M) (hd : ∀ c, c < (kids m k).length → Dn W 1650 (getQ v c - M))
    (hM : ∀ x : Nat → Rat, FW (kids m k).length m.many (Gm m k) (ruleA m k) x → S (kids m k).length (fun c => x c * getQ v c) ≤ M) : CovAll m k v M W (covRows m k v w) := by
  have hr := B.rl
  have hn := B.many
  let bs := v.map fun q => q - (nodeAt m k).g * w
  have hb : bs.length = (kids m k).length := by simp [bs, hv]
  have hbv : ∀ c, c < (kids m k).length → getQ bs c = getQ v c - M := fun c hc => by
    show getQ (v.map fun q => q - (nodeAt m k).g * w) c = _
    rw [getQ_map _ _ _ (by omega), hw]
  have U := cov_U hr hb
  have er : covRows m k v w = ruleRows m k ++ winRows m k bs := rfl
  rw [er]
  have rK : (ruleRows m k ++ winRows m k bs).length = (ruleRows m k).length + (kids m k).length := by rw [List.length_append, win_len hb]
  have rRl := rule_rows_len hr
  have r7 : (ruleRows m k ++ winRows m k bs).length ≤ 7 := by have := B.row; omega
  have lr : ∀ i, i < (ruleRows m k ++ winRows m k bs).length → loosU (ruleRows m k ++ winRows m k bs) i = true → LR W 48 1700 (lineAt (ruleRows m k ++ winRows m k bs) i) := fun i hi hu => by
    rcases Nat.lt_or_ge i (ruleRows m k).length with q | q
    · have hm : rowAt (ruleRows m k ++ winRows m k bs) i ∈ ruleRows m k := by rw [rowAt_l q]; exact rowAt_mem q
      obtain ⟨a, ha, b0, z⟩ := rule_row hr hm
      refine ⟨1, by decide, by decide, DnL.of_lt fun j hj => ?_, unitM_DL (by decide) _ _, by
        show Dn (1 * W) 1700 (rowAt (ruleRows m k ++ winRows m k bs) i).b
        rw [b0]; exact Dn.zero _ _⟩
      have hj' : j < m.many := by
        have := (line_shp U hi).1
        rw [this] at hj; exact hj
      show Dn 1 48 (getQ (rowAt (ruleRows m k ++ winRows m k bs) i).f j)
      refine dn_pm ?_
      rcases z with ⟨_, _, e⟩ | ⟨_, _, e⟩ | ⟨_, _, e⟩
      · rw [e, alone_get hj']; split
        · exact .inr (.inr rfl)
        · exact .inl rfl
      · rw [e, alone_get hj']; split
        · exact .inr (.inl rfl)
        · exact .inl rfl
      · rw [e, alone_get hj']; split
        · exact .inr (.inl rfl)
        · exact .inl rfl
    · obtain ⟨c, rfl⟩ : ∃ c, i = (ruleRows m k).length + c := ⟨i - (ruleRows m k).length, by omega⟩
      have hc : c < (kids m k).length := by omega
      obtain ⟨_, _, e⟩ := win_loos hb hc
      refine ⟨E, B.e0, B.e1, fun j => ?_, unitM_DL B.e1 _ _, ?_⟩
      · show Dn E 48 (getQ (rowAt (ruleRows m k ++ winRows m k bs) ((ruleRows m k).length + c)).f j)
        rw [e]
        show Dn E 48 (getQ (((gains m k).getD c []).map fun q => 0 - q) j)
        rw [getQ_map0 _ (by grind)]
        exact (B.g c j).nsub
      · show Dn (E * W) 1700 (rowAt (ruleRows m k ++ winRows m k bs) ((ruleRows m k).length + c)).b
        rw [e]
        show Dn (E * W) 1700 (0 - getQ bs c)
        rw [hbv c hc]
        exact ((hd c hc).nsub.wideL B.e1).mono (by decide)
  have fin := cov_fin hr hb hbv hM
  obtain ⟨s1, s2, s3, s4, s5, s6, s7, s8⟩ := rows_solve U w0 w1 hn r7 lr fin
  have gr := gauss_rows U
  have es : solR m.many (ruleRows m k ++ winRows m k bs) = filledIn m.many ((eqsOf (ruleRows m k ++ winRows m k bs)).map (fun e => (plc m.many e, e))) (elim (looseOf (ruleRows m k ++ winRows m k bs)) (redL m.many (ruleRows m k ++ winRows m k bs)) m.many).1 := by unfold solR; rw [gr]
  rw [← es] at s5 s6 s7 s8
  refine ⟨U.fl, r7, s1, by rw [gr]; exact fun l hl => (nomatch hl), by rw [gr]; exact s2, by rw [gr]; exact fun l hl => ⟨fin l hl, s3 l hl⟩, by rw [gr]; exact s4, s5, s6, fun c hc => ?_, fun a ha => ⟨fun h => ?_, fun h => ?_, fun h => ?_⟩⟩
  · obtain ⟨a, b, e⟩ := win_loos hb hc
    have := s8 _ a b
    rw [e] at this
    simp only [] at this
    rw [hbv c hc] at this
    have e2 : S m.many (fun j => getQ (((gains m k).getD c []).map fun q => 0 - q) j * getQ (solR m.many (ruleRows m k ++ winRows m k bs)) j) = (-1) * S m.many (fun j => getQ (solR m.many (ruleRows m k ++ winRows m k bs)) j * Gm m k c j) := by
      rw [← S_mul]
      refine S_congr fun j _ => ?_
      rw [getQ_map0 _ (by grind)]
      unfold Gm
      grind
    rw [e2] at this
    grind
  · -- long
    have hm : (⟨aloneQ m.many a (-1), false, 0⟩ : RowQ) ∈ ruleRows m k := (rule_mem hr).mpr ⟨a, ha, by unfold ruleRow; rw [h]; exact List.mem_singleton.mpr rfl⟩
    obtain ⟨i, hi, e⟩ := List.getElem_of_mem hm
    have e1 : rowAt (ruleRows m k ++ winRows m k bs) i = ⟨aloneQ m.many a (-1), false, 0⟩ := by
      rw [rowAt_l hi, ← e]
      have := rowAt_get hi
      rw [List.getElem?_eq_getElem hi] at this
      exact (Option.some.inj this).symm
    have := s8 i (by omega) (by rw [loosU_at (by omega), e1]; rfl)
    rw [e1] at this
    simp only [] at this
    rw [S_only (p := a) ha fun j hj hne => by rw [alone_get hj, if_neg hne]; grind, alone_get ha, if_pos rfl] at this
    grind
  · have hm : (⟨aloneQ m.many a 1, false, 0⟩ : RowQ) ∈ ruleRows m k := (rule_mem hr).mpr ⟨a, ha, by unfold ruleRow; rw [h]; exact List.mem_singleton.mpr rfl⟩
    obtain ⟨i, hi, e⟩ := List.getElem_of_mem hm
    have e1 : rowAt (ruleRows m k ++ winRows m k bs) i = ⟨aloneQ m.many a 1, false, 0⟩ := by
      rw [rowAt_l hi, ← e]
      have := rowAt_get hi
      rw [List.getElem?_eq_getElem hi] at this
      exact (Option.some.inj this).symm
    have := s8 i (by omega) (by rw [loosU_at (by omega), e1]; rfl)
    rw [e1] at this
    simp only [] at this
    rw [S_only (p := a) ha fun j hj hne => by rw [alone_get hj, if_neg hne]; grind, alone_get ha, if_pos rfl] at this
    grind
  · exact s7 a ((cov_place hr hb ha).mpr h)
/-! the best weights -/
theorem bestOf_fold (v : List Rat) : ∀ (ls : List (List Rat)) (b : List Rat), ∃ c, ls.foldl (fun best x => match best with
      | none => some x
      | some b => if dotQ b v < dotQ x v then some x else some b) (some b) = some c ∧ (c = b ∨ c ∈ ls) ∧ dotQ b v ≤ dotQ c v ∧ ∀ x ∈ ls, dotQ x v ≤ dotQ c v
  | [], b => ⟨b, rfl, .inl rfl, by grind, fun x hx => nomatch hx⟩
  | x :: ls, b => by
    rw [List.foldl_cons]
    simp only []
    by_cases h : dotQ b v < dotQ x v
    · rw [if_pos h]
      obtain ⟨c, h1, h2, h3, h4⟩ := bestOf_fold v ls x
      refine ⟨c, h1, .inr ?_, by grind, fun y hy => ?_⟩
      · rcases h2 with q | q
        · rw [q]; exact List.mem_cons_self
        · exact List.mem_cons_of_mem _ q
      · rcases List.mem_cons.mp hy with q | q
        · rw [q]; exact h3
        · exact h4 y q
    · rw [if_neg h]
      obtain ⟨c, h1, h2, h3, h4⟩ := bestOf_fold v ls b
      refine ⟨c, h1, ?_, h3, fun y hy => ?_⟩
      · rcases h2 with q | q
        · exact .inl q
        · exact .inr (List.mem_cons_of_mem _ q)
      · rcases List.mem_cons.mp hy with q | q
        · rw [q]; grind
        · exact h4 y q
theorem bestOf_some (v : List Rat) {ls : List (List Rat)} (h : ls ≠ []) : ∃ c, bestOf ls v = some c ∧ c ∈ ls ∧ ∀ x ∈ ls, dotQ x v ≤ dotQ c v := by
  cases ls with
  | nil => exact absurd rfl h
  | cons x ls =>
    obtain ⟨c, h1, h2, h3, h4⟩ := bestOf_fold v ls x
    refine ⟨c, h1, ?_, fun y hy => ?_⟩
    · rcases h2 with q | q
      · rw [q]; exact List.mem_cons_self
      · exact List.mem_cons_of_mem _ q
    · rcases List.mem_cons.mp hy with q | q
      · rw [q]; exact h3
      · exact h4 y q
def bestB (m : Market) (k : Nat) (v : List Rat) : List Rat := (bestOf (extremes m k) v).getD []
def maxM (m : Market) (k : Nat) (v : List Rat) : Rat := dotQ (bestB m k v) v
structure BestF (m : Market) (k : Nat) (v : List Rat) : Prop where
  best : bestOf (extremes m k) v = some (bestB m k v)
  mem : bestB m k v ∈ extremes m k
  isW : isWeights m k (bestB m k v) = true
  max : ∀ x, isWeights m k x = true → dotQ x v ≤ maxM m k v
theorem best_facts {m : Market} {k : Nat} {ws v : List Rat} (hr : (nodeAt m k).rules.length = m.many) (hw : isWeights m k ws = true) (hv : v.length = (kids m k).length) : BestF m k v := by
  obtain ⟨e, he, _⟩ := ext_dom hr hw hv
  obtain ⟨c, h1, h2, h3⟩ := bestOf_some v (List.ne_nil_of_mem he)
  have eb : bestB m k v = c := by unfold bestB; rw [h1]; rfl
  refine ⟨by rw [eb]; exact h1, by rw [eb]; exact h2, by rw [eb]; exact (ext_good m k).2 c h2, fun x hx => ?_⟩
  obtain ⟨e, he, hle⟩ := ext_dom hr hx hv
  unfold maxM
  rw [eb]
  have := h3 e he
  grind
theorem fw_list {m : Market} {k : Nat} (hr : (nodeAt m k).rules.length = m.many) (h0 : (kids m k).length ≠ 0) {x : Nat → Rat} (hx : FW (kids m k).length m.many (Gm m k) (ruleA m k) x) : isWeights m k ((List.range (kids m k).length).map x) = true := by
  have toL : ∀ c, c < (kids m k).length → getQ ((List.range (kids m k).length).map x) c = x c := fun c hc => getQ_range x _ c hc
  refine (isW_iff hr).mpr ⟨h0, by simp, fun c hc => by rw [toL c hc]; exact hx.pos c hc, by rw [S_congr toL]; exact hx.sum, fun a ha => ?_⟩
  have : meanF (kids m k).length (Gm m k) (getQ ((List.range (kids m k).length).map x)) a = meanF (kids m k).length (Gm m k) x a := S_congr fun c hc => by rw [toL c hc]
  rw [this]
  exact hx.mean a ha
theorem best_FW {m : Market} {k : Nat} {v : List Rat} (hr : (nodeAt m k).rules.length = m.many) (h0 : (kids m k).length ≠ 0) (hv : v.length = (kids m k).length) (b : BestF m k v) : ∀ x : Nat → Rat, FW (kids m k).length m.many (Gm m k) (ruleA m k) x → S (kids m k).length (fun c => x c * getQ v c) ≤ maxM m k v := fun x hx => by
  have h1 := b.max _ (fw_list hr h0 hx)
  rw [dot_S (n := (kids m k).length) (.inr (by omega))] at h1
  rwa [S_congr (g := fun c => x c * getQ v c) fun c hc => by rw [getQ_range x _ c hc]] at h1
end Hq
end
section
set_option Elab.async false
set_option linter.all false
set_option maxRecDepth 100000
set_option maxHeartbeats 1000000
set_option exponentiation.threshold 100000
/-! what the law asks of a node -/
namespace Hk
open Hq
/-- what is known of a node and its known weights -/
structure NodeOk (m : Market) (k : Nat) (E : Int) (ws : List Rat) : Prop where
  B : GB m k E
  h0 : (kids m k).length ≠ 0
  g0 : 0 < (nodeAt m k).g
  g1 : Dn 10 6 (nodeAt m k).g
  g2 : Dn 22 6 (nodeAt m k).g⁻¹
  hw : isWeights m k ws = true
  wl : WL (kids m k).length ws
/-- short values -/
def VL (n : Nat) (v : List Rat) : Prop := v.length = n ∧ ∃ V : Int, V ≠ 0 ∧ V.natAbs < 2 ^ 20 ∧ DnL V 20 v
theorem VL.sm {n : Nat} {v : List Rat} (h : VL n v) : AllSm 20 v := by
  obtain ⟨l, V, v0, v1, vx⟩ := h
  exact vx.sm v0 v1 (Nat.le_refl _) (Nat.le_refl _)
theorem dot_ok {n : Nat} {x v : List Rat} (hn : n ≤ 6) (hx : WL n x) (hv : VL n v) : DotOk x v := by
  have sx := hx.allSm
  have sv := hv.sm
  obtain ⟨l, W, w0, w1, wx⟩ := hx
  obtain ⟨l', V, v0, v1, vx⟩ := hv
  exact ⟨sx.mono (by decide), sv.mono (by decide), by omega, (wx.zip vx).sumOk (mul_ne w0 v0) (mulD w1 v1) (by rw [List.length_zipWith]; omega) (by decide)⟩
section
variable {m : Market} {k : Nat} {E : Int} {ws : List Rat} (N : NodeOk m k E ws)
include N
theorem node_g : (nodeAt m k).g ≠ 0 := by have := N.g0; grind
theorem means_ok {x : List Rat} (hx : WL (kids m k).length x) : MeansOk m k x := fun a ha => by
  have sx := hx.allSm
  obtain ⟨l, W, w0, w1, wx⟩ := hx
  have c := col_DL N.B.g a
  have := N.B.kl
  exact ⟨sx.mono (by decide), c.sm N.B.e0 N.B.e1 (by decide) (by decide), by omega, (wx.zip c).sumOk (mul_ne w0 N.B.e0) (mulD w1 N.B.e1) (by rw [List.length_zipWith]; omega) (by decide)⟩
theorem ex_ok : ExOk m k := by
  have hk := N.B.kl
  refine ⟨by omega, fun s hs more hm h0 h1 => ?_⟩
  obtain ⟨g1, g2, g3⟩ := try_sz N.B hs hm h1
  obtain ⟨a, b⟩ := parts_s hs
  have tl := tight_len N.B hm
  have := N.B.many
  refine ⟨⟨by omega, by rw [List.length_append]; omega, b, tight_lt N.B hm, g1, fun _ _ => g2⟩, fun x hx => ?_⟩
  have wl := g3 x hx
  exact ⟨by have := wl.1; omega, wl.sumOk (by omega), means_ok N wl⟩
theorem best_ok {v : List Rat} (hv : v.length = (kids m k).length) : BestF m k v := best_facts N.B.rl N.hw hv
/-- a mean over the growth -/
theorem mean_sm {x v : List Rat} (hx : WL (kids m k).length x) (hv : VL (kids m k).length v) : Sm 1700 (dotQ x v / (nodeAt m k).g) := by
  have hk := N.B.kl
  obtain ⟨l, W, w0, w1, wx⟩ := hx
  obtain ⟨l', V, v0, v1, vx⟩ := hv
  have d : Dn (W * V) (1600 + 20 + (kids m k).length) (dotQ x v) := wx.dot vx (.inr (by omega))
  rw [Rat.div_def]
  exact (d.mul N.g2).sm (mul_ne (mul_ne w0 v0) (by decide)) (mulD (mulD w1 v1) (show (22 : Int).natAbs < 2 ^ 5 by decide)) (by omega) (by decide)
/-- the gap that is to be covered -/
theorem gap {b v : List Rat} (hb : WL (kids m k).length b) (hv : VL (kids m k).length v) : ∃ W : Int, W ≠ 0 ∧ W.natAbs < 2 ^ 1650 ∧ Dn W 1650 (dotQ b v) ∧ ∀ c, c < (kids m k).length → Dn W 1650 (getQ v c - dotQ b v) := by
  have hk := N.B.kl
  obtain ⟨l, W, w0, w1, wx⟩ := hb
  obtain ⟨l', V, v0, v1, vx⟩ := hv
  have d : Dn (W * V) (1600 + 20 + (kids m k).length) (dotQ b v) := wx.dot vx (.inr (by omega))
  refine ⟨W * V, mul_ne w0 v0, monoD (mulD w1 v1) (by decide), d.mono (by omega), fun c hc => ?_⟩
  have h1 : Dn (W * V) 1640 (getQ v c) := ((vx c).wideL w1).mono (by decide)
  exact (h1.sub (d.mono (by omega))).mono (by decide)
theorem cost_g {v : List Rat} : (nodeAt m k).g * costV m k v = maxM m k v := by
  have := node_g N
  show (nodeAt m k).g * (dotQ (bestB m k v) v / (nodeAt m k).g) = maxM m k v
  unfold maxM
  grind
/-- the whole of one cost -/
theorem cost_all {v : List Rat} (hv : VL (kids m k).length v) : CostOk m k v (bestV m k v) ∧ PapF m k (costV m k v) (bestV m k v) (holdV m k v) ∧ PaperF m k v (costV m k v) (bestV m k v) (holdV m k v) := by
  have hk := N.B.kl
  have hmn := N.B.many
  have gne := node_g N
  have bf := best_ok N hv.1
  have wb : WL (kids m k).length (bestV m k v) := ext_sz N.B _ bf.mem
  obtain ⟨W, w0, w1, wM, wd⟩ := gap N wb hv
  have cg := cost_g N (v := v)
  have CA : CovAll m k v (maxM m k v) W (covRows m k v (costV m k v)) := cov_all N.B w0 w1 hv.1 cg wd (best_FW N.B.rl N.h0 hv.1 bf)
  have csm : Sm 1700 (costV m k v) := mean_sm N wb hv
  have gsm : Sm 4400 ((nodeAt m k).g * costV m k v) := by rw [cg]; exact wM.sm w0 w1 (by decide) (by decide)
  have vsm := hv.sm
  have so : SolveOk m.many (covRows m k v (costV m k v)) := ⟨by omega, by have := CA.rl; omega, CA.fl, CA.gok, CA.left, CA.eok, CA.fin, CA.fil⟩
  have cov : CovOk m k v (costV m k v) := ⟨by have := hv.1; omega, vsm.mono (by decide), csm.mono (by decide), gsm, fun q hq => by
    rw [cg] at hq
    obtain ⟨y, hy, rfl⟩ := List.mem_map.mp hq
    obtain ⟨i, hi, rfl⟩ := List.getElem_of_mem hy
    rw [← getQ_lt hi]
    exact (wd i (by have := hv.1; omega)).sm w0 w1 (by decide) (by decide), so⟩
  have eh : holdV m k v = solR m.many (covRows m k v (costV m k v)) := rfl
  obtain ⟨F, f0, f1, fx⟩ := CA.sx
  rw [← eh] at fx
  have wf0 := mul_ne w0 f0
  have wf1 := mulD w1 f1
  have hsm : AllSm 4400 (holdV m k v) := fx.sm wf0 wf1 (by decide) (by decide)
  have hl : (holdV m k v).length = m.many := by rw [eh]; exact CA.sl
  refine ⟨⟨ex_ok N, fun y hy => dot_ok hk (ext_sz N.B y hy) hv, bf.best, gne, cov⟩, ⟨csm.mono (by decide), wb.allSm.mono (by decide), hsm, wb.1, hl⟩, ?_⟩
  refine ⟨by have := wb.1; omega, wb.sumOk (by omega), means_ok N wb, bf.isW, dot_ok hk wb hv, gne, rfl, ?_⟩
  refine ⟨⟨hl, fun a r hra => ?_⟩, hv.1, vsm.mono (by decide), csm.mono (by decide), gsm, fun i hi => ?_⟩
  · have ha : a < m.many := by have := (List.getElem?_eq_some_iff.mp hra).1; rw [N.B.rl] at this; exact this
    have er : ruleA m k a = r := by
      have := ruleA_at (m := m) (k := k) (a := a) (by rw [N.B.rl]; exact ha)
      rw [hra] at this
      exact (Option.some.inj this).symm
    obtain ⟨k1, k2, k3⟩ := CA.kp a ha
    rw [← eh] at k1 k2 k3
    rw [er] at k1 k2 k3
    cases r with
    | any => rfl
    | long => exact decide_eq_true (k1 rfl)
    | short => exact decide_eq_true (k2 rfl)
    | none_ => exact decide_eq_true (k3 rfl)
  · have wx : DnL E 48 (won m k i) := fun j => N.B.g i j
    have wlen : (won m k i).length = m.many := gain_len hi
    have ds : dotQ (holdV m k v) (won m k i) = S m.many fun j => getQ (holdV m k v) j * Gm m k i j := dot_S (.inl (by omega))
    have dd : Dn (W * F * E) (2490 + 48 + m.many) (dotQ (holdV m k v) (won m k i)) := fx.dot wx (.inl (by omega))
    have dM : Dn (W * F * E) (1650 + 800 + 48) (maxM m k v) := (wM.wide f1).wide N.B.e1
    refine ⟨⟨hsm, wx.sm N.B.e0 N.B.e1 (by decide) (by decide), by omega, (fx.zip wx).sumOk (mul_ne wf0 N.B.e0) (mulD wf1 N.B.e1) (by rw [List.length_zipWith]; omega) (by decide)⟩, ?_, ?_⟩
    · rw [cg]
      exact ((dM.mono (show _ ≤ 2600 by decide)).add (dd.mono (show _ ≤ 2600 by omega))).sm (mul_ne wf0 N.B.e0) (mulD wf1 N.B.e1) (by decide) (by decide)
    · rw [cg, ds]
      have := CA.cov i hi
      rw [← eh] at this
      exact this
end
/-! the law's inequalities -/
section
variable {m : Market} {k : Nat}
theorem w_len {x : List Rat} (h : isWeights m k x = true) : x.length = (kids m k).length := isW_len h
theorem dot_add {n : Nat} {x a b : List Rat} (ha : a.length = n) (hb : b.length = n) : dotQ x (addL a b) = dotQ x a + dotQ x b := by
  have hl : (addL a b).length = n := by unfold addL; simp [ha]
  rw [dot_S (n := n) (.inr (by omega)), dot_S (n := n) (.inr (by omega)), dot_S (n := n) (.inr (by omega)), ← S_add]
  refine S_congr fun i hi => ?_
  unfold addL
  rw [getQ_range _ _ _ (by omega)]; grind
theorem dot_mul {n : Nat} {x a : List Rat} {c : Rat} (ha : a.length = n) : dotQ x (mulL c a) = c * dotQ x a := by
  have hl : (mulL c a).length = n := by unfold mulL; simp [ha]
  rw [dot_S (n := n) (.inr (by omega)), dot_S (n := n) (.inr (by omega)), ← S_mul]
  refine S_congr fun i hi => ?_
  unfold mulL
  rw [getQ_map _ _ _ (by omega)]; grind
theorem dot_opp {n : Nat} {x a : List Rat} (ha : a.length = n) : dotQ x (opposite a) = -(dotQ x a) := by
  have hl : (opposite a).length = n := by unfold opposite; simp [ha]
  have e : dotQ x (opposite a) = (-1) * dotQ x a := by
    rw [dot_S (n := n) (.inr (by omega)), dot_S (n := n) (.inr (by omega)), ← S_mul]
    refine S_congr fun i hi => ?_
    unfold opposite
    rw [getQ_map _ _ _ (by omega)]; grind
  rw [e]; grind
theorem dot_shift {n : Nat} {x a : List Rat} {c : Rat} (ha : a.length = n) (hx : S n (getQ x) = 1) : dotQ x (shiftL c a) = dotQ x a + c := by
  have hl : (shiftL c a).length = n := by unfold shiftL; simp [ha]
  rw [dot_S (n := n) (.inr (by omega)), dot_S (n := n) (.inr (by omega))]
  have e : S n (fun i => getQ x i * getQ (shiftL c a) i) = S n (fun i => getQ x i * getQ a i + c * getQ x i) := S_congr fun i hi => by
    unfold shiftL
    rw [getQ_map _ _ _ (by omega)]; grind
  rw [e, S_add, S_mul, hx]; grind
theorem abs_nn (q : Rat) : 0 ≤ absQ q := by
  unfold absQ
  split <;> grind
theorem dot_high {n : Nat} {x a b : List Rat} (ha : a.length = n) (hx : ∀ i, i < n → 0 ≤ getQ x i) : dotQ x a ≤ dotQ x (highL a b) := by
  have hl : (highL a b).length = n := by unfold highL; simp [ha]
  rw [dot_S (n := n) (.inr (by omega)), dot_S (n := n) (.inr (by omega))]
  refine S_le fun i hi => ?_
  unfold highL
  rw [getQ_range _ _ _ (by omega)]
  have := Rat.mul_nonneg (hx i hi) (abs_nn (getQ b i))
  grind
theorem neg_opp (a : List Rat) : negL a = opposite a := by
  unfold negL opposite
  refine List.map_congr_left fun q _ => ?_
  grind
end
section
variable {m : Market} {k : Nat} {E : Int} {ws : List Rat} (N : NodeOk m k E ws)
include N
theorem div_mono {a b : Rat} (h : a ≤ b) : a / (nodeAt m k).g ≤ b / (nodeAt m k).g := by
  rw [Rat.div_def, Rat.div_def]
  have := Rat.inv_pos.mpr N.g0
  exact Rat.mul_le_mul_of_nonneg_right h (by grind)
theorem cost_def (v : List Rat) : costV m k v = maxM m k v / (nodeAt m k).g := rfl
theorem w_FW {x : List Rat} (h : isWeights m k x = true) : FW (kids m k).length m.many (Gm m k) (ruleA m k) (getQ x) := ((isW_iff N.B.rl).mp h).2.2
theorem max_at {x v : List Rat} (hv : v.length = (kids m k).length) (h : isWeights m k x = true) : dotQ x v ≤ maxM m k v := (best_ok N hv).max x h
theorem max_is {v : List Rat} (hv : v.length = (kids m k).length) : isWeights m k (bestB m k v) = true := (best_ok N hv).isW
theorem law_all_node {fi se : List Rat} {bq mq : Rat} (hf : VL (kids m k).length fi) (hs : VL (kids m k).length se) (h3 : VL (kids m k).length (addL fi se)) (h4 : VL (kids m k).length (opposite se)) (h5 : VL (kids m k).length (mulL bq fi)) (h6 : VL (kids m k).length (shiftL mq fi)) (h7 : VL (kids m k).length (highL fi se))
    (b0 : 0 < bq) (bs : Sm 1000 bq) (ms : Sm 1000 mq) : LawF m k ws fi se bq mq := by
  have gne := node_g N
  have hk := N.B.kl
  have c1 := cost_all N hf
  have c2 := cost_all N hs
  have c3 := cost_all N h3
  have c4 := cost_all N h4
  have c5 := cost_all N h5
  have c6 := cost_all N h6
  have c7 := cost_all N h7
  have sum1 : ∀ x, isWeights m k x = true → S (kids m k).length (getQ x) = 1 := fun x hx => (w_FW N hx).sum
  have pos1 : ∀ x, isWeights m k x = true → ∀ i, i < (kids m k).length → 0 ≤ getQ x i := fun x hx => (w_FW N hx).pos
  have lf := hf.1
  have ls := hs.1
  have cs : ∀ v, VL (kids m k).length v → Sm 1700 (costV m k v) := fun v hv => mean_sm N (ext_sz N.B _ (best_ok N hv.1).mem) hv
  have M3 : maxM m k (addL fi se) ≤ maxM m k fi + maxM m k se := by
    have w := max_is N h3.1
    have a1 := max_at N lf w
    have a2 := max_at N ls w
    show dotQ (bestB m k (addL fi se)) (addL fi se) ≤ _
    rw [dot_add lf ls]; grind
  have M4 : maxM m k fi ≤ maxM m k (addL fi se) + maxM m k (opposite se) := by
    have w := max_is N lf
    have a1 := max_at N h3.1 w
    have a2 := max_at N h4.1 w
    rw [dot_add lf ls] at a1
    rw [dot_opp ls] at a2
    show dotQ (bestB m k fi) fi ≤ _
    grind
  have M5 : maxM m k (mulL bq fi) = bq * maxM m k fi := by
    have w1 := max_is N h5.1
    have w2 := max_is N lf
    have a1 := max_at N lf w1
    have a2 := max_at N h5.1 w2
    rw [dot_mul lf] at a2
    have e : maxM m k (mulL bq fi) = bq * dotQ (bestB m k (mulL bq fi)) fi := dot_mul lf
    have e2 : maxM m k fi = dotQ (bestB m k fi) fi := rfl
    have a3 := Rat.mul_le_mul_of_nonneg_left a1 (show 0 ≤ bq by grind)
    grind
  have M6 : maxM m k (shiftL mq fi) = maxM m k fi + mq := by
    have w1 := max_is N h6.1
    have w2 := max_is N lf
    have a1 := max_at N lf w1
    have a2 := max_at N h6.1 w2
    rw [dot_shift lf (sum1 _ w2)] at a2
    have e : maxM m k (shiftL mq fi) = dotQ (bestB m k (shiftL mq fi)) fi + mq := dot_shift lf (sum1 _ w1)
    have e2 : maxM m k fi = dotQ (bestB m k fi) fi := rfl
    grind
  have M7 : maxM m k fi ≤ maxM m k (highL fi se) := by
    have w := max_is N lf
    have a1 := max_at N h7.1 w
    have a2 := dot_high (b := se) lf (pos1 _ w)
    show dotQ (bestB m k fi) fi ≤ _
    grind
  have K1 := max_at N ls N.hw
  have K2 := max_at N h4.1 N.hw
  rw [dot_opp ls] at K2
  have neg := neg_opp se
  have e4 : -(0 - costV m k (opposite se)) = costV m k (opposite se) := by grind
  refine ⟨c1.1.ex, ext_count N.B, gne, lf, ls, hf.sm.mono (by decide), hs.sm.mono (by decide), bs, ms, c1.1, c2.1, c3.1, c4.1, c5.1, c6.1, c7.1, by rw [neg]; exact c4.1, c1.2.1, c2.2.1, c3.2.1, ⟨by rw [zero_sub]; exact c4.2.1.c.neg, c4.2.1.wsm, c4.2.1.hsm, c4.2.1.wl, c4.2.1.hl⟩, c1.2.2, c2.2.2, c3.2.2, by rw [neg, e4]; exact c4.2.2,
    dot_ok hk N.wl hs, by rw [ls]; exact N.wl.1, (mean_sm N N.wl hs).mono (by decide), ?_, ?_, ((cs _ hf).add (cs _ hs)).mono (by decide), ?_, ((cs _ hf).add (cs _ h4).nsub).mono (by decide), ?_, ?_, ?_, ?_, by rw [neg, e4], fun x hx => ⟨dot_ok hk (ext_sz N.B x hx) hf, by rw [(ext_sz N.B x hx).1, lf], (mean_sm N (ext_sz N.B x hx) hf).mono (by decide)⟩, ⟨bestB m k fi, (best_ok N lf).mem, rfl⟩, fun x hx => div_mono N (max_at N lf ((ext_good m k).2 x hx))⟩
  · exact div_mono N K1
  · have := div_mono N K2
    rw [cost_def N]
    generalize maxM m k (opposite se) = A at *
    generalize dotQ ws se = B at *
    have e : -B / (nodeAt m k).g = -(B / (nodeAt m k).g) := by grind
    rw [e] at this
    grind
  · have := div_mono N M3
    rw [cost_def N, cost_def N, cost_def N]
    grind
  · have := div_mono N M4
    rw [cost_def N, cost_def N, cost_def N]
    grind
  · rw [cost_def N, cost_def N, M5]; grind
  · rw [cost_def N, cost_def N, M6]; grind
  · rw [cost_def N, cost_def N]
    exact div_mono N M7
end
end Hk
end
section
set_option Elab.async false
set_option linter.all false
set_option maxRecDepth 100000
set_option maxHeartbeats 1000000
set_option exponentiation.threshold 100000
/-! the drawn market: shapes, weights, sizes -/
namespace Hk
open Hq
def kidsP (ps : List Int) (k : Nat) : List Nat := (List.range ps.length).filter fun i => decide (ps.getD i 0 = (k : Int))
/-- so many inner nodes stand among the last i -/
def cntP (ps : List Int) : Nat → Nat
  | 0 => 0
  | i + 1 => cntP ps i + if 0 < (kidsP ps (ps.length - 1 - i)).length then 1 else 0
def shpB (a : Nat) (ps : List Int) : Bool := ((List.range ps.length).all fun k => decide ((kidsP ps k).length ≤ 6) && (decide ((kidsP ps k).length + a ≤ 7) && ((decide (ps.length ≤ 7) || decide ((kidsP ps k).length ≤ 3)) && (kidsP ps k).all fun c => decide (k < c)))) && decide (cntP ps ps.length ≤ if 7 < ps.length then 8 else 3)
theorem shp_all : ∀ a, a < 5 → a ≠ 0 → ∀ ps ∈ shapesOf a, shpB a ps = true := by decide +kernel
theorem shapes_pos (a : Nat) : 0 < (shapesOf a).length := by unfold shapesOf; split; decide; split <;> decide
theorem shp_dr (dr : List Int) : shpB (manyOf dr) (parsOf dr) = true := by
  have h := many_rng dr
  exact shp_all _ (by omega) (by omega) _ (getD_mem (mod_nat (d := dAt dr 3) (shapes_pos _)).2)
theorem shp_facts (dr : List Int) : (∀ k, k < npOf dr → (kidsP (parsOf dr) k).length ≤ 6 ∧ (kidsP (parsOf dr) k).length + manyOf dr ≤ 7 ∧ (7 < npOf dr → (kidsP (parsOf dr) k).length ≤ 3) ∧ ∀ c ∈ kidsP (parsOf dr) k, k < c) ∧ cntP (parsOf dr) (npOf dr) ≤ if 7 < npOf dr then 8 else 3 := by
  have h := shp_dr dr
  unfold shpB at h
  rw [Bool.and_eq_true, List.all_eq_true] at h
  refine ⟨fun k hk => ?_, of_decide_eq_true h.2⟩
  have := h.1 k (List.mem_range.mpr hk)
  simp only [Bool.and_eq_true, Bool.or_eq_true, decide_eq_true_eq, List.all_eq_true] at this
  obtain ⟨a, b, c, d⟩ := this
  refine ⟨a, b, fun h7 => ?_, d⟩
  rcases c with c | c
  · have : npOf dr = (parsOf dr).length := rfl
    omega
  · exact c
theorem cnt_mono (ps : List Int) : ∀ {i j : Nat}, i ≤ j → cntP ps i ≤ cntP ps j := by
  intro i j h
  induction j with
  | zero => have : i = 0 := by omega
            subst this; exact Nat.le_refl _
  | succ j ih =>
    rcases Nat.lt_or_ge i (j + 1) with q | q
    · have := ih (by omega)
      show _ ≤ cntP ps j + _
      omega
    · have : i = j + 1 := by omega
      subst this; exact Nat.le_refl _
/-! numbers whose product with E is whole -/
def PZ (E : Int) (B : Rat) (q : Rat) : Prop := (∃ z : Int, q * (E : Rat) = z) ∧ -B ≤ q ∧ q ≤ B
theorem PZ.whole {E : Int} {B : Rat} {q : Rat} (h : PZ E B q) (f : Int) : ∃ z : Int, q * ((E * f : Int) : Rat) = z := by
  obtain ⟨⟨z, e⟩, _⟩ := h
  exact ⟨z * f, by grind⟩
theorem cast_le {a b : Int} (h : a ≤ b) : (a : Rat) ≤ (b : Rat) := Rat.intCast_le_intCast.mpr h
theorem dn_of {E : Int} {B : Int} {e b : Nat} {q : Rat} (hz : ∃ z : Int, q * (E : Rat) = z) (e0 : 0 < E) (e1 : E.natAbs < 2 ^ e) (lo : -(B : Rat) ≤ q) (hi : q ≤ (B : Rat)) (hB : B.natAbs < 2 ^ b) : Dn E (b + e) q := by
  obtain ⟨z, hz⟩ := hz
  refine ⟨z, hz, ?_⟩
  have ep : (0 : Rat) ≤ (E : Rat) := cast_le (show (0 : Int) ≤ E by omega)
  have h1 := Rat.mul_le_mul_of_nonneg_right hi ep
  have h2 := Rat.mul_le_mul_of_nonneg_right lo ep
  have h3 : (z : Rat) ≤ ((B * E : Int) : Rat) := by rw [Rat.intCast_mul, ← hz]; exact h1
  have h4 : ((-(B * E) : Int) : Rat) ≤ (z : Rat) := by rw [Rat.intCast_neg, Rat.intCast_mul, ← hz]; grind
  have h5 := Rat.intCast_le_intCast.mp h3
  have h6 := Rat.intCast_le_intCast.mp h4
  have h7 : z.natAbs ≤ (B * E).natAbs := by omega
  have h8 := mulD hB e1
  omega
/-! the weights that are drawn -/
theorem S_first (f : Nat → Rat) (n : Nat) : S (n + 1) f = f 0 + S n fun i => f (i + 1) := by
  have h := S_app f 1 n
  rw [Nat.add_comm 1 n] at h
  rw [h]
  show 0 + f 0 + _ = _
  rw [Rat.zero_add]
  congr 1
  exact S_congr fun i _ => by rw [Nat.add_comm]
theorem S_ints : ∀ ps : List Int, S ps.length (fun i => ((ps.getD i 0 : Int) : Rat)) = ((ps.sum : Int) : Rat)
  | [] => rfl
  | p :: ps => by
    rw [List.length_cons, S_first, List.sum_cons, Rat.intCast_add]
    congr 1
    rw [← S_ints ps]
    exact S_congr fun i _ => rfl
structure DrawnW (n : Nat) (F : Int) (ws : List Rat) : Prop where
  len : ws.length = n
  pos : ∀ c, c < n → 0 ≤ getQ ws c
  sum : S n (getQ ws) = 1
  S0 : ∃ s : Int, 1 ≤ s ∧ s ≤ F ∧ ∀ c, ∃ p : Int, 0 ≤ p ∧ p ≤ 4 ∧ getQ ws c * (s : Rat) = p
theorem ratios_ok {ps : List Int} {F : Int} (h : ∀ p ∈ ps, 1 ≤ p ∧ p ≤ 4) (h0 : ps ≠ []) (hF : ps.sum ≤ F) : DrawnW ps.length F (ratios ps) := by
  obtain ⟨h1, h2⟩ := sum_rng ps h
  have hl : 0 < ps.length := List.length_pos_iff.mpr h0
  have sp : (0 : Rat) < ((ps.sum : Int) : Rat) := Rat.intCast_pos.mpr (by omega)
  have ip := Rat.inv_pos.mpr sp
  have at_ : ∀ c, c < ps.length → getQ (ratios ps) c = ((ps.getD c 0 : Int) : Rat) * ((ps.sum : Int) : Rat)⁻¹ := fun c hc => by
    unfold ratios
    rw [getQ_mapL _ 0 _ _ hc, Rat.divInt_eq_div, Rat.div_def]
  have pp : ∀ c, c < ps.length → 1 ≤ ps.getD c 0 ∧ ps.getD c 0 ≤ 4 := fun c hc => h _ (getD_mem hc)
  have inv : ((ps.sum : Int) : Rat) * ((ps.sum : Int) : Rat)⁻¹ = 1 := Rat.mul_inv_cancel _ (by grind)
  refine ⟨by simp [ratios], fun c hc => ?_, ?_, ps.sum, by omega, hF, fun c => ?_⟩
  · rw [at_ c hc]
    exact Rat.mul_nonneg (cast_le (show (0 : Int) ≤ _ by have := (pp c hc).1; omega)) (by grind)
  · have e : S ps.length (getQ (ratios ps)) = S ps.length fun c => ((ps.sum : Int) : Rat)⁻¹ * ((ps.getD c 0 : Int) : Rat) := S_congr fun c hc => by rw [at_ c hc]; grind
    rw [e, S_mul, S_ints]; grind
  · by_cases hc : c < ps.length
    · refine ⟨ps.getD c 0, by have := (pp c hc).1; omega, (pp c hc).2, ?_⟩
      rw [at_ c hc]; grind
    · refine ⟨0, by decide, by decide, ?_⟩
      rw [getQ_ge (by simp [ratios]; omega)]
      grind
theorem plain_sum {d : Int} {n : Nat} (hn : n = 1 ∨ n = 2 ∨ n = 3) : (plainParts d n).sum ≤ 4 := by
  have hl : 0 < (plainMenu.getD (n - 1) []).length := by rcases hn with rfl | rfl | rfl <;> decide
  have hm : plainParts d n ∈ plainMenu.getD (n - 1) [] := getD_mem (mod_nat hl).2
  have hall : ∀ l ∈ plainMenu.getD (n - 1) [], l.sum ≤ 4 := by rcases hn with rfl | rfl | rfl <;> decide
  exact hall _ hm
/-- the factor that a step may add to the denominator -/
def facS (np : Nat) : Int := if 7 < np then 4 else 24
def facG (np : Nat) : Int := if 7 < np then 2 else 11
theorem ws_ok {dr : List Int} {m : Market} {k : Nat} (h0 : 0 < (kids m k).length) (h6 : (kids m k).length ≤ 6) (h3 : 7 < npOf dr → (kids m k).length ≤ 3) : DrawnW (kids m k).length (facS (npOf dr)) (wsOf dr m k) := by
  unfold wsOf facS
  by_cases h : 7 < npOf dr
  · rw [if_pos h, if_pos h]
    have hn : (kids m k).length = 1 ∨ (kids m k).length = 2 ∨ (kids m k).length = 3 := by have := h3 h; omega
    obtain ⟨a, b⟩ := plain_rng (d := dAt dr (latOf k)) hn
    have := ratios_ok a (fun z => by rw [z] at b; simp at b; omega) (plain_sum hn)
    rw [b] at this
    exact this
  · rw [if_neg h, if_neg h]
    have hl : (partsZ (sliceZ dr (latOf k) 6) (kids m k).length).length = (kids m k).length := by simp [partsZ]
    have hr := partsZ_rng (sliceZ dr (latOf k) 6) (kids m k).length
    have := ratios_ok hr (fun z => by rw [z] at hl; simp at hl; omega) (F := 24) (by have := (sum_rng _ hr).2; rw [hl] at this; omega)
    rw [hl] at this
    exact this
/-! growths, payouts, prices -/
structure GrowOk (np : Nat) (g : Rat) : Prop where
  pos : 0 < g
  g1 : Dn 10 6 g
  g2 : Dn 22 6 g⁻¹
  hi : g⁻¹ ≤ 2
  up : g ≤ 2
  fac : ∃ f : Int, 1 ≤ f ∧ f ≤ facG np ∧ ∃ z : Int, g⁻¹ * (f : Rat) = z
theorem dnW {D z : Int} {k : Nat} {q : Rat} (h : q * (D : Rat) = z) (l : z.natAbs < 2 ^ k) : Dn D k q := ⟨z, h, l⟩
theorem grow1 (np : Nat) : GrowOk np 1 := ⟨by decide, dnW (z := 10) (by decide +kernel) (by decide), dnW (z := 22) (by decide +kernel) (by decide), by decide +kernel, by decide +kernel, 1, by decide, by unfold facG; split <;> decide, 1, by decide +kernel⟩
theorem grow2 (np : Nat) : GrowOk np 2 := ⟨by decide, dnW (z := 20) (by decide +kernel) (by decide), dnW (z := 11) (by decide +kernel) (by decide), by decide +kernel, by decide +kernel, 2, by decide, by unfold facG; split <;> decide, 1, by decide +kernel⟩
theorem grow3 (np : Nat) : GrowOk np (1 / 2) := ⟨by decide +kernel, dnW (z := 5) (by decide +kernel) (by decide), dnW (z := 44) (by decide +kernel) (by decide), by decide +kernel, by decide +kernel, 1, by decide, by unfold facG; split <;> decide, 2, by decide +kernel⟩
theorem grow4 {np : Nat} (h : ¬ 7 < np) : GrowOk np (11 / 10) := ⟨by decide +kernel, dnW (z := 11) (by decide +kernel) (by decide), dnW (z := 20) (by decide +kernel) (by decide), by decide +kernel, by decide +kernel, 11, by decide, by unfold facG; rw [if_neg h]; decide, 10, by decide +kernel⟩
theorem grow_at (dr : List Int) (k : Nat) : GrowOk (npOf dr) (growAt dr k) := by
  unfold growAt
  have hl : 0 < (growsOf (npOf dr)).length := by unfold growsOf; split <;> decide
  have hm := getD_mem (z := (1 : Rat)) (mod_nat (d := dAt (partOf dr k) 0) hl).2
  generalize (growsOf (npOf dr)).getD (dAt (partOf dr k) 0 % ((growsOf (npOf dr)).length : Int)).toNat 1 = g at hm
  unfold growsOf at hm
  by_cases h : 7 < npOf dr
  · rw [if_pos h] at hm
    simp only [growL, List.take_succ_cons, List.take_zero, List.mem_cons, List.not_mem_nil, or_false] at hm
    rcases hm with rfl | rfl | rfl | rfl
    · exact grow1 _
    · exact grow1 _
    · exact grow2 _
    · exact grow3 _
  · rw [if_neg h] at hm
    simp only [growL, List.mem_cons, List.not_mem_nil, or_false] at hm
    rcases hm with rfl | rfl | rfl | rfl | rfl
    · exact grow1 _
    · exact grow1 _
    · exact grow2 _
    · exact grow3 _
    · exact grow4 h
theorem pay_ok (dr : List Int) (k n : Nat) : PZ 2 1 (pay0 dr k n) := by
  unfold pay0
  have hm := getD_mem (z := (0 : Rat)) (xs := payL) (mod_nat (d := dAt (partOf dr k) (9 + n)) (n := 4) (by decide)).2
  have e : ((4 : Nat) : Int) = 4 := rfl
  rw [e] at hm
  generalize payL.getD (dAt (partOf dr k) (9 + n) % 4).toNat 0 = q at hm
  simp only [payL, List.mem_cons, List.not_mem_nil, or_false] at hm
  rcases hm with rfl | rfl | rfl | rfl
  · exact ⟨⟨0, by decide +kernel⟩, by decide +kernel, by decide +kernel⟩
  · exact ⟨⟨0, by decide +kernel⟩, by decide +kernel, by decide +kernel⟩
  · exact ⟨⟨2, by decide +kernel⟩, by decide +kernel, by decide +kernel⟩
  · exact ⟨⟨-1, by decide +kernel⟩, by decide +kernel, by decide +kernel⟩
theorem more_ok (d : Int) : PZ 2 4 (moreQ d) ∧ 0 ≤ moreQ d := by
  unfold moreQ
  have hm := getD_mem (z := (0 : Rat)) (xs := moreL) (mod_nat (d := d) (n := 5) (by decide)).2
  have e : ((5 : Nat) : Int) = 5 := rfl
  rw [e] at hm
  generalize moreL.getD (d % 5).toNat 0 = q at hm
  simp only [moreL, List.mem_cons, List.not_mem_nil, or_false] at hm
  rcases hm with rfl | rfl | rfl | rfl | rfl
  · exact ⟨⟨⟨0, by decide +kernel⟩, by decide +kernel, by decide +kernel⟩, by decide +kernel⟩
  · exact ⟨⟨⟨2, by decide +kernel⟩, by decide +kernel, by decide +kernel⟩, by decide +kernel⟩
  · exact ⟨⟨⟨1, by decide +kernel⟩, by decide +kernel, by decide +kernel⟩, by decide +kernel⟩
  · exact ⟨⟨⟨0, by decide +kernel⟩, by decide +kernel, by decide +kernel⟩, by decide +kernel⟩
  · exact ⟨⟨⟨8, by decide +kernel⟩, by decide +kernel, by decide +kernel⟩, by decide +kernel⟩
theorem divInt_rng {n d lo hi : Int} (h1 : d = 1 ∨ d = 2) (hl : lo ≤ n) (hh : n ≤ hi) (l0 : lo ≤ 0) (h0 : 0 ≤ hi) : (∃ z : Int, Rat.divInt n d * ((2 : Int) : Rat) = z) ∧ (lo : Rat) ≤ Rat.divInt n d ∧ Rat.divInt n d ≤ (hi : Rat) := by
  rw [Rat.divInt_eq_div]
  have a := cast_le hl
  have b := cast_le hh
  have a0 := cast_le l0
  have b0 := cast_le h0
  rcases h1 with rfl | rfl
  · have e : (n : Rat) / ((1 : Int) : Rat) = n := by grind
    rw [e]
    exact ⟨⟨n * 2, by grind⟩, a, b⟩
  · have e : (n : Rat) / ((2 : Int) : Rat) * ((2 : Int) : Rat) = n := by grind
    refine ⟨⟨n, e⟩, ?_, ?_⟩
    · have e2 : (n : Rat) / ((2 : Int) : Rat) = (n : Rat) / 2 := rfl
      grind
    · have e2 : (n : Rat) / ((2 : Int) : Rat) = (n : Rat) / 2 := rfl
      grind
theorem price0_ok (dr : List Int) (k n : Nat) : PZ 2 11 (price0 dr k n) := by
  unfold price0
  have h1 := Int.emod_nonneg (dAt (partOf dr k) (5 + n)) (show (18 : Int) ≠ 0 by decide)
  have h2 := Int.emod_lt_of_pos (dAt (partOf dr k) (5 + n)) (show (0 : Int) < 18 by decide)
  have h3 := Int.emod_nonneg (dAt (partOf dr k) (5 + n) / 18) (show (2 : Int) ≠ 0 by decide)
  have h4 := Int.emod_lt_of_pos (dAt (partOf dr k) (5 + n) / 18) (show (0 : Int) < 2 by decide)
  obtain ⟨a, b, c⟩ := divInt_rng (n := dAt (partOf dr k) (5 + n) % 18 - 6) (d := 1 + dAt (partOf dr k) (5 + n) / 18 % 2) (lo := -11) (hi := 11) (by omega) (by omega) (by omega) (by decide) (by decide)
  exact ⟨a, b, c⟩
end Hk
end
section
set_option Elab.async false
set_option linter.all false
set_option maxRecDepth 100000
set_option maxHeartbeats 1000000
set_option exponentiation.threshold 100000
/-! the drawn market: step by step -/
namespace Hk
open Hq
/-- the bound of a price behind so many steps -/
def Bd : Nat → Int
  | 0 => 11
  | c + 1 => 2 * Bd c + 6
def facB (np : Nat) : Nat := if 7 < np then 3 else 9
theorem nodeAt_set {m : Market} {k j : Nat} {x : Node} (many : Nat) : nodeAt ⟨many, m.nodes.set k x⟩ j = if k = j ∧ k < m.nodes.length then x else nodeAt m j := by
  unfold nodeAt
  by_cases h : k = j
  · subst h
    by_cases hk : k < m.nodes.length
    · rw [if_pos ⟨rfl, hk⟩, List.getD_eq_getElem?_getD, List.getElem?_set_self hk]; rfl
    · rw [if_neg (fun z => hk z.2), List.getD_eq_getElem?_getD, List.getD_eq_getElem?_getD, List.getElem?_eq_none (by simp; omega), List.getElem?_eq_none (by omega)]
  · rw [if_neg (fun z => h z.1), List.getD_eq_getElem?_getD, List.getD_eq_getElem?_getD, List.getElem?_set_ne h]
theorem kids_congr {m m' : Market} {k : Nat} (hl : m.nodes.length = m'.nodes.length) (h : ∀ j, j < m.nodes.length → (nodeAt m j).par = (nodeAt m' j).par) : kids m k = kids m' k := by
  unfold kids
  rw [← hl]
  exact List.filter_congr fun i hi => by rw [h i (List.mem_range.mp hi)]
theorem prices_congr {m m' : Market} {k : Nat} {ws : List Rat} {zs : List Int} (hk : kids m k = kids m' k) (hr : (nodeAt m k).rules = (nodeAt m' k).rules) (hg : (nodeAt m k).g = (nodeAt m' k).g) (hc : ∀ c ∈ kids m k, nodeAt m c = nodeAt m' c) : pricesQ m k ws zs = pricesQ m' k ws zs := by
  have hv : ∀ a, valsQ m k a = valsQ m' k a := fun a => by
    unfold valsQ
    rw [← hk]
    exact List.map_congr_left fun c h => by rw [hc c h]
  have hb : ∀ a, baseQ m k a ws = baseQ m' k a ws := fun a => by unfold baseQ; rw [hv, hg]
  unfold pricesQ
  rw [← hr]
  refine List.map_congr_left fun a _ => ?_
  unfold priceQ
  rw [hb]
structure StI (dr : List Int) (i : Nat) (s : Market × List (List Rat)) : Prop where
  len : s.1.nodes.length = npOf dr
  many : s.1.many = manyOf dr
  len2 : s.2.length = npOf dr
  par : ∀ j, j < npOf dr → (nodeAt s.1 j).par = (parsOf dr).getD j 0
  g : ∀ j, j < npOf dr → (nodeAt s.1 j).g = growAt dr j
  ru : ∀ j, j < npOf dr → (nodeAt s.1 j).rules = (List.range (manyOf dr)).map (rule0 dr j)
  po : ∀ j, j < npOf dr → (nodeAt s.1 j).po = (List.range (manyOf dr)).map (pay0 dr j)
  pl : ∀ j, j < npOf dr → (nodeAt s.1 j).pr.length = manyOf dr
  size : ∃ e : Int, 1 ≤ e ∧ 2 * e ≤ 2 ^ (1 + facB (npOf dr) * cntP (parsOf dr) i) ∧ ∀ j, j < npOf dr → ∀ a, PZ (2 * e) (Bd (cntP (parsOf dr) i)) (getQ (nodeAt s.1 j).pr a)
  done : ∀ j, j < npOf dr → npOf dr - i ≤ j → 0 < (kids s.1 j).length → (nodeAt s.1 j).pr = pricesQ s.1 j (wsOf dr s.1 j) (moreOf dr j) ∧ s.2.getD j [] = wsOf dr s.1 j
theorem kids_P {dr : List Int} {m : Market} (hl : m.nodes.length = npOf dr) (hp : ∀ j, j < npOf dr → (nodeAt m j).par = (parsOf dr).getD j 0) (k : Nat) : kids m k = kidsP (parsOf dr) k := by
  unfold kids kidsP
  rw [hl]
  exact List.filter_congr fun i hi => by rw [hp i (List.mem_range.mp hi)]
theorem StI.kids {dr : List Int} {i : Nat} {s : Market × List (List Rat)} (h : StI dr i s) (k : Nat) : Hq.kids s.1 k = kidsP (parsOf dr) k := kids_P h.len h.par k
theorem PZ.zero {E : Int} {B : Rat} (h : 0 ≤ B) : PZ E B 0 := ⟨⟨0, by grind⟩, by grind, h⟩
theorem Bd_rng : ∀ c, c ≤ 8 → 11 ≤ Bd c ∧ Bd c ≤ 4346 := by decide
theorem Bd_pos : ∀ c, 11 ≤ Bd c
  | 0 => by decide
  | c + 1 => by
    have := Bd_pos c
    show 11 ≤ 2 * Bd c + 6
    omega
theorem mkt0_node {dr : List Int} {j : Nat} (h : j < npOf dr) : nodeAt (mkt0 dr) j = node0 dr j := by
  unfold nodeAt mkt0
  simp only []
  rw [List.getD_eq_getElem?_getD, List.getElem?_map, List.getElem?_range h]
  rfl
theorem st0 (dr : List Int) : StI dr 0 (stateM dr 0) := by
  show StI dr 0 (mkt0 dr, List.replicate (npOf dr) [])
  refine ⟨by simp [mkt0], rfl, by simp, fun j hj => ?_, fun j hj => ?_, fun j hj => ?_, fun j hj => ?_, fun j hj => ?_, ⟨1, by decide, by
    show (2 * 1 : Int) ≤ 2 ^ (1 + facB (npOf dr) * 0)
    rw [Nat.mul_zero]; decide, fun j hj a => ?_⟩, fun j hj h => by omega⟩
  · show (nodeAt (mkt0 dr) j).par = _
    rw [mkt0_node hj]; rfl
  · show (nodeAt (mkt0 dr) j).g = _
    rw [mkt0_node hj]; rfl
  · show (nodeAt (mkt0 dr) j).rules = _
    rw [mkt0_node hj]; rfl
  · show (nodeAt (mkt0 dr) j).po = _
    rw [mkt0_node hj]; rfl
  · show (nodeAt (mkt0 dr) j).pr.length = _
    rw [mkt0_node hj]; simp [node0]
  · show PZ (2 * 1) (Bd 0) (getQ (nodeAt (mkt0 dr) j).pr a)
    rw [mkt0_node hj]
    show PZ (2 * 1) (Bd 0) (getQ ((List.range (manyOf dr)).map (price0 dr j)) a)
    by_cases ha : a < manyOf dr
    · rw [getQ_range _ _ _ ha]
      exact price0_ok dr j a
    · rw [getQ_ge (by simp; omega)]
      exact PZ.zero (by decide)
/-- a mean of bounded numbers -/
theorem mean_rng {n : Nat} {x v : Nat → Rat} {B : Rat} (h0 : ∀ c, c < n → 0 ≤ x c) (hs : S n x = 1) (hv : ∀ c, c < n → -B ≤ v c ∧ v c ≤ B) : -B ≤ S n (fun c => x c * v c) ∧ S n (fun c => x c * v c) ≤ B := by
  constructor
  · have h1 : S n (fun c => (-B) * x c) ≤ S n (fun c => x c * v c) := S_le fun c hc => by
      have := Rat.mul_nonneg (h0 c hc) (show 0 ≤ v c + B by have := (hv c hc).1; grind)
      grind
    rw [S_mul, hs] at h1
    grind
  · have h1 : S n (fun c => x c * v c) ≤ S n (fun c => B * x c) := S_le fun c hc => by
      have := Rat.mul_nonneg (h0 c hc) (show 0 ≤ B - v c by have := (hv c hc).2; grind)
      grind
    rw [S_mul, hs] at h1
    grind
theorem S_whole {D : Int} {f : Nat → Rat} : ∀ {n : Nat}, (∀ c, c < n → ∃ z : Int, f c * (D : Rat) = z) → ∃ z : Int, S n f * (D : Rat) = z
  | 0, _ => ⟨0, by show (0 : Rat) * (D : Rat) = ((0 : Int) : Rat); grind⟩
  | n + 1, h => by
    obtain ⟨z, e⟩ := S_whole (n := n) fun c hc => h c (by omega)
    obtain ⟨y, q⟩ := h n (by omega)
    refine ⟨z + y, ?_⟩
    show (S n f + f n) * (D : Rat) = _
    grind
theorem getQ_mapN (f : Nat → Rat) (l : List Nat) (i : Nat) (h : i < l.length) : getQ (l.map f) i = f (l.getD i 0) := getQ_mapL f 0 l i h
theorem val_at {m : Market} {k a c : Nat} (h : c < (kids m k).length) : getQ (valsQ m k a) c = getQ (nodeAt m ((kids m k).getD c 0)).pr a + getQ (nodeAt m ((kids m k).getD c 0)).po a := by
  unfold valsQ
  rw [getQ_mapN _ _ _ h]
section
variable {dr : List Int} {i : Nat} {s : Market × List (List Rat)}
theorem po_ok (h : StI dr i s) {j : Nat} (hj : j < npOf dr) (a : Nat) : PZ 2 1 (getQ (nodeAt s.1 j).po a) := by
  rw [h.po j hj]
  by_cases ha : a < manyOf dr
  · rw [getQ_range _ _ _ ha]
    exact pay_ok dr j a
  · rw [getQ_ge (by simp; omega)]
    exact PZ.zero (by decide)
theorem kid_lt (h : StI dr i s) {k c : Nat} (hc : c < (kids s.1 k).length) : (kids s.1 k).getD c 0 < npOf dr := by
  have := getD_mem (z := 0) hc
  have := List.mem_range.mp (List.mem_filter.mp this).1
  rw [h.len] at this; exact this
/-- the values of the children -/
theorem vals_ok (h : StI dr i s) {e : Int} {C : Nat} (hz : ∀ j, j < npOf dr → ∀ a, PZ (2 * e) (Bd C) (getQ (nodeAt s.1 j).pr a)) (k a : Nat) : ∀ c, c < (kids s.1 k).length → PZ (2 * e) (Bd C + 1 : Int) (getQ (valsQ s.1 k a) c) := fun c hc => by
  rw [val_at hc]
  have hl := kid_lt h hc
  obtain ⟨⟨z, e1⟩, lo, hi⟩ := hz _ hl a
  obtain ⟨⟨y, e2⟩, lo2, hi2⟩ := po_ok h hl a
  have ec : ((Bd C + 1 : Int) : Rat) = (Bd C : Rat) + 1 := Rat.intCast_add _ _
  rw [ec]
  refine ⟨⟨z + y * e, by grind⟩, by grind, by grind⟩
theorem base_ok (h : StI dr i s) {e : Int} {C : Nat} (e1 : 1 ≤ e) (hz : ∀ j, j < npOf dr → ∀ a, PZ (2 * e) (Bd C) (getQ (nodeAt s.1 j).pr a)) {k : Nat} (hk : k < npOf dr) {ws : List Rat} (hw : DrawnW (kids s.1 k).length (facS (npOf dr)) ws) :
    ∃ f : Int, 1 ≤ f ∧ f ≤ facS (npOf dr) * facG (npOf dr) ∧ ∀ a, PZ (2 * (e * f)) (2 * Bd C + 2 : Int) (baseQ s.1 k a ws) := by
  obtain ⟨sm, s1, s2, sp⟩ := hw.S0
  have G := grow_at dr k
  rw [← h.g k hk] at G
  obtain ⟨gf, f1, f2, gz, hgz⟩ := G.fac
  have gi : 0 < (nodeAt s.1 k).g⁻¹ := Rat.inv_pos.mpr G.pos
  refine ⟨sm * gf, Int.le_trans (by decide : (1 : Int) ≤ 1 * 1) (Int.mul_le_mul s1 f1 (by decide) (by omega)), Int.mul_le_mul s2 f2 (by omega) (by omega), fun a => ?_⟩
  have vo := vals_ok h hz k a
  have vlen : (valsQ s.1 k a).length = (kids s.1 k).length := by simp [valsQ]
  have ds : dotQ ws (valsQ s.1 k a) = S (kids s.1 k).length fun c => getQ ws c * getQ (valsQ s.1 k a) c := dot_S (.inr (by omega))
  have rng := mean_rng (x := getQ ws) (v := getQ (valsQ s.1 k a)) (B := ((Bd C + 1 : Int) : Rat)) hw.pos hw.sum fun c hc => (vo c hc).2
  rw [← ds] at rng
  obtain ⟨w, hwz⟩ : ∃ z : Int, dotQ ws (valsQ s.1 k a) * ((sm * (2 * e) : Int) : Rat) = z := by
    rw [ds]
    refine S_whole fun c hc => ?_
    obtain ⟨p, _, _, hp⟩ := sp c
    obtain ⟨⟨y, hy⟩, _⟩ := vo c hc
    exact ⟨p * y, by rw [Rat.intCast_mul sm (2 * e), Rat.intCast_mul p y, ← hp, ← hy]; grind⟩
  unfold baseQ
  rw [Rat.div_def]
  have t2 := G.hi
  generalize dotQ ws (valsQ s.1 k a) = q at *
  generalize (nodeAt s.1 k).g⁻¹ = t at *
  have bp : (0 : Rat) ≤ ((Bd C + 1 : Int) : Rat) := cast_le (show (0 : Int) ≤ Bd C + 1 by have := Bd_pos C; omega)
  have e2 : ((2 * Bd C + 2 : Int) : Rat) = 2 * ((Bd C + 1 : Int) : Rat) := by rw [Rat.intCast_add, Rat.intCast_add, Rat.intCast_mul]; grind
  rw [e2]
  generalize ((Bd C + 1 : Int) : Rat) = b at *
  refine ⟨⟨w * gz, ?_⟩, ?_, ?_⟩
  · have e3 : ((2 * (e * (sm * gf)) : Int) : Rat) = ((sm * (2 * e) : Int) : Rat) * (gf : Rat) := by grind
    rw [e3, Rat.intCast_mul w, ← hwz, ← hgz]; grind
  · have h1 := Rat.mul_nonneg (show 0 ≤ q + b by grind) (show 0 ≤ t by grind)
    have h2 := Rat.mul_nonneg bp (show 0 ≤ 2 - t by grind)
    grind
  · have h1 := Rat.mul_nonneg (show 0 ≤ b - q by grind) (show 0 ≤ t by grind)
    have h2 := Rat.mul_nonneg bp (show 0 ≤ 2 - t by grind)
    grind
theorem drawn_price {m : Market} {k a : Nat} {e f B : Int} (hB : 11 ≤ B) (e1 : 1 ≤ e) (f1 : 1 ≤ f) {ws : List Rat} (hb : PZ (2 * (e * f)) (2 * B + 2 : Int) (baseQ m k a ws)) (r : Rule) (d : Int) : PZ (2 * (e * f)) (2 * B + 6 : Int) (priceQ m k a r ws d) := by
  obtain ⟨⟨⟨y, hy⟩, lo2, hi2⟩, nn⟩ := more_ok d
  obtain ⟨⟨z, hz⟩, lo, hi⟩ := hb
  have eA : ((2 * B + 2 : Int) : Rat) = 2 * (B : Rat) + 2 := by grind
  have eB : ((2 * B + 6 : Int) : Rat) = 2 * (B : Rat) + 6 := by grind
  have b11 : (11 : Rat) ≤ (B : Rat) := cast_le hB
  rw [eA] at lo hi
  rw [eB]
  unfold priceQ
  cases r with
  | any => exact ⟨⟨z, hz⟩, by show _ ≤ baseQ m k a ws; grind, by show baseQ m k a ws ≤ _; grind⟩
  | long => exact ⟨⟨z + y * (e * f), by show (baseQ m k a ws + moreQ d) * _ = _; grind⟩, by show _ ≤ baseQ m k a ws + moreQ d; grind, by show baseQ m k a ws + moreQ d ≤ _; grind⟩
  | short => exact ⟨⟨z - y * (e * f), by show (baseQ m k a ws - moreQ d) * _ = _; grind⟩, by show _ ≤ baseQ m k a ws - moreQ d; grind, by show baseQ m k a ws - moreQ d ≤ _; grind⟩
  | none_ =>
    have h1 := Int.emod_nonneg d (show (9 : Int) ≠ 0 by decide)
    have h2 := Int.emod_lt_of_pos d (show (0 : Int) < 9 by decide)
    have c1 := cast_le h1
    have c2 := cast_le (show d % 9 ≤ 8 by omega)
    have c1' : (0 : Rat) ≤ ((d % 9 : Int) : Rat) := c1
    have c2' : ((d % 9 : Int) : Rat) ≤ 8 := c2
    exact ⟨⟨d % 9 * (2 * (e * f)), by show ((d % 9 : Int) : Rat) * _ = _; grind⟩, by show _ ≤ ((d % 9 : Int) : Rat); grind, by show ((d % 9 : Int) : Rat) ≤ _; grind⟩
end
end Hk
end
section
set_option Elab.async false
set_option linter.all false
set_option maxRecDepth 100000
set_option maxHeartbeats 1000000
set_option exponentiation.threshold 100000
/-! the drawn market: all steps, and what it is in the end -/
namespace Hk
open Hq
theorem ws_congr {dr : List Int} {m m' : Market} {k : Nat} (h : kids m k = kids m' k) : wsOf dr m k = wsOf dr m' k := by unfold wsOf; rw [h]
theorem fac_le (np : Nat) : facS np * facG np ≤ 2 ^ facB np ∧ 0 ≤ facS np * facG np := by
  unfold facS facG facB
  split <;> decide
theorem drawn_at {m : Market} {k : Nat} {ws : List Rat} {zs : List Int} {a : Nat} (ha : a < (nodeAt m k).rules.length) : getQ (pricesQ m k ws zs) a = priceQ m k a ((nodeAt m k).rules.getD a .any) ws (zs.getD a 0) := by
  unfold pricesQ
  rw [getQ_range _ _ _ ha]
theorem st_succ {dr : List Int} {i : Nat} (hi : i < npOf dr) (h : StI dr i (stateM dr i)) : StI dr (i + 1) (stateM dr (i + 1)) := by
  obtain ⟨sf, _⟩ := shp_facts dr
  rw [state_next]
  generalize stateM dr i = s at h
  have hk : npOf dr - 1 - i < npOf dr := by omega
  generalize ek : npOf dr - 1 - i = k at hk
  have ecnt : cntP (parsOf dr) (i + 1) = cntP (parsOf dr) i + if 0 < (kidsP (parsOf dr) k).length then 1 else 0 := by
    rw [← ek]; rfl
  obtain ⟨k6, _, k3, kgt⟩ := sf k hk
  unfold stepM
  by_cases h0 : 0 < (kids s.1 k).length
  · rw [if_pos h0]
    have h0' : 0 < (kidsP (parsOf dr) k).length := by rw [← h.kids k]; exact h0
    rw [if_pos h0'] at ecnt
    have DW : DrawnW (kids s.1 k).length (facS (npOf dr)) (wsOf dr s.1 k) := ws_ok h0 (by rw [h.kids k]; exact k6) (fun h7 => by rw [h.kids k]; exact k3 h7)
    have nset : ∀ j, nodeAt ⟨s.1.many, s.1.nodes.set k (newNode dr s.1 k)⟩ j = if k = j then newNode dr s.1 k else nodeAt s.1 j := fun j => by
      rw [nodeAt_set]
      by_cases e : k = j
      · rw [if_pos ⟨e, by rw [h.len]; exact hk⟩, if_pos e]
      · rw [if_neg (fun z => e z.1), if_neg e]
    have par' : ∀ j, j < npOf dr → (nodeAt ⟨s.1.many, s.1.nodes.set k (newNode dr s.1 k)⟩ j).par = (parsOf dr).getD j 0 := fun j hj => by
      rw [nset]
      split
      · rename_i e; subst e; exact h.par k hk
      · exact h.par j hj
    have len' : (⟨s.1.many, s.1.nodes.set k (newNode dr s.1 k)⟩ : Market).nodes.length = npOf dr := by
      show (s.1.nodes.set k (newNode dr s.1 k)).length = _
      rw [List.length_set]; exact h.len
    have kid' : ∀ j, kids ⟨s.1.many, s.1.nodes.set k (newNode dr s.1 k)⟩ j = kids s.1 j := fun j => by rw [kids_P len' par', h.kids]
    have rul : (nodeAt s.1 k).rules.length = manyOf dr := by rw [h.ru k hk]; simp
    have same : ∀ j, k ≤ j → j < npOf dr → ∀ ws, pricesQ ⟨s.1.many, s.1.nodes.set k (newNode dr s.1 k)⟩ j ws (moreOf dr j) = pricesQ s.1 j ws (moreOf dr j) := fun j hkj hj ws => by
      refine prices_congr (kid' j) ?_ ?_ (fun c hc => ?_)
      · rw [nset]
        split
        · rename_i e; subst e; rfl
        · rfl
      · rw [nset]
        split
        · rename_i e; subst e; rfl
        · rfl
      · rw [nset, if_neg]
        rw [kid', h.kids] at hc
        have := (sf j hj).2.2.2 c hc
        omega
    refine ⟨len', h.many, by show (s.2.set k _).length = _; rw [List.length_set]; exact h.len2, par', fun j hj => ?_, fun j hj => ?_, fun j hj => ?_, fun j hj => ?_, ?_, fun j hj hij hjk => ?_⟩
    · show (nodeAt ⟨s.1.many, s.1.nodes.set k (newNode dr s.1 k)⟩ j).g = _
      rw [nset]
      split
      · rename_i e; subst e; exact h.g k hk
      · exact h.g j hj
    · show (nodeAt ⟨s.1.many, s.1.nodes.set k (newNode dr s.1 k)⟩ j).rules = _
      rw [nset]
      split
      · rename_i e; subst e; exact h.ru k hk
      · exact h.ru j hj
    · show (nodeAt ⟨s.1.many, s.1.nodes.set k (newNode dr s.1 k)⟩ j).po = _
      rw [nset]
      split
      · rename_i e; subst e; exact h.po k hk
      · exact h.po j hj
    · show (nodeAt ⟨s.1.many, s.1.nodes.set k (newNode dr s.1 k)⟩ j).pr.length = _
      rw [nset]
      split
      · show (pricesQ s.1 k _ _).length = _
        unfold pricesQ
        rw [List.length_map, List.length_range, rul]
      · exact h.pl j hj
    · obtain ⟨e, e1, e2, ez⟩ := h.size
      obtain ⟨f, f1, f2, fb⟩ := base_ok h e1 ez hk DW
      have fl := fac_le (npOf dr)
      refine ⟨e * f, Int.le_trans (by decide : (1 : Int) ≤ 1 * 1) (Int.mul_le_mul e1 f1 (by decide) (by omega)), ?_, fun j hj a => ?_⟩
      · rw [ecnt]
        have p1 : (2 : Int) ^ (1 + facB (npOf dr) * (cntP (parsOf dr) i + 1)) = 2 ^ (1 + facB (npOf dr) * cntP (parsOf dr) i) * 2 ^ facB (npOf dr) := by
          rw [← Int.pow_add]
          congr 1
          rw [Nat.mul_add, Nat.mul_one]; omega
        rw [p1]
        have : 2 * (e * f) = 2 * e * f := by grind
        rw [this]
        exact Int.mul_le_mul e2 (Int.le_trans f2 fl.1) (by omega) (by omega)
      · rw [ecnt]
        show PZ (2 * (e * f)) (2 * Bd (cntP (parsOf dr) i) + 6 : Int) (getQ (nodeAt ⟨s.1.many, s.1.nodes.set k (newNode dr s.1 k)⟩ j).pr a)
        have B11 := Bd_pos (cntP (parsOf dr) i)
        rw [nset]
        split
        · show PZ _ _ (getQ (pricesQ s.1 k (wsOf dr s.1 k) (moreOf dr k)) a)
          by_cases ha : a < manyOf dr
          · rw [drawn_at (by omega)]
            exact drawn_price B11 e1 f1 (fb a) _ _
          · rw [getQ_ge (by unfold pricesQ; rw [List.length_map, List.length_range, rul]; omega)]
            exact PZ.zero (cast_le (show (0 : Int) ≤ _ by omega))
        · have pz := ez j hj a
          have w := pz.whole f
          have e3 : 2 * e * f = 2 * (e * f) := by grind
          rw [e3] at w
          have c1 := cast_le (show Bd (cntP (parsOf dr) i) ≤ 2 * Bd (cntP (parsOf dr) i) + 6 by omega)
          exact ⟨w, by have := pz.2.1; grind, by have := pz.2.2; grind⟩
    · have hjk' : 0 < (kids s.1 j).length := by rw [← kid' j]; exact hjk
      have kj : k ≤ j := by omega
      show (nodeAt ⟨s.1.many, s.1.nodes.set k (newNode dr s.1 k)⟩ j).pr = pricesQ ⟨s.1.many, s.1.nodes.set k (newNode dr s.1 k)⟩ j (wsOf dr ⟨s.1.many, s.1.nodes.set k (newNode dr s.1 k)⟩ j) (moreOf dr j) ∧ (s.2.set k (wsOf dr s.1 k)).getD j [] = wsOf dr ⟨s.1.many, s.1.nodes.set k (newNode dr s.1 k)⟩ j
      rw [same j kj hj, ws_congr (kid' j), nset]
      by_cases e : k = j
      · subst e
        rw [if_pos rfl]
        refine ⟨rfl, ?_⟩
        rw [List.getD_eq_getElem?_getD, List.getElem?_set_self (by rw [h.len2]; exact hk)]
        rfl
      · rw [if_neg e]
        obtain ⟨d1, d2⟩ := h.done j hj (by omega) hjk'
        refine ⟨d1, ?_⟩
        rw [List.getD_eq_getElem?_getD, List.getElem?_set_ne e, ← List.getD_eq_getElem?_getD]
        exact d2
  · rw [if_neg h0]
    have h0' : ¬ 0 < (kidsP (parsOf dr) k).length := by rw [← h.kids k]; exact h0
    rw [if_neg h0', Nat.add_zero] at ecnt
    refine ⟨h.len, h.many, h.len2, h.par, h.g, h.ru, h.po, h.pl, by rw [ecnt]; exact h.size, fun j hj hij hjk => ?_⟩
    by_cases e : j = k
    · rw [e] at hjk; exact absurd hjk h0
    · exact h.done j hj (by omega) hjk
theorem st_all (dr : List Int) : ∀ i, i ≤ npOf dr → StI dr i (stateM dr i)
  | 0, _ => st0 dr
  | i + 1, h => st_succ (by omega) (st_all dr i (by omega))
/-! what a state is good for -/
theorem cnt_small {dr : List Int} {i : Nat} (h : i ≤ npOf dr) : cntP (parsOf dr) i ≤ 8 ∧ 1 + facB (npOf dr) * cntP (parsOf dr) i ≤ 28 := by
  have h1 := cnt_mono (parsOf dr) h
  have h2 := (shp_facts dr).2
  unfold facB
  by_cases h7 : 7 < npOf dr
  · rw [if_pos h7] at h2 ⊢
    omega
  · rw [if_neg h7] at h2 ⊢
    omega
theorem two_le {a b : Nat} (h : a ≤ b) : (2 : Int) ^ a ≤ 2 ^ b := by
  have := Nat.pow_le_pow_right (n := 2) (by decide) h
  exact_mod_cast this
section
variable {dr : List Int} {i : Nat} {s : Market × List (List Rat)}
theorem st_den (h : StI dr i s) (hi : i ≤ npOf dr) : ∃ e : Int, 1 ≤ e ∧ 2 * e ≤ 2 ^ 28 ∧ ∀ j, j < npOf dr → ∀ a, PZ (2 * e) (Bd (cntP (parsOf dr) i)) (getQ (nodeAt s.1 j).pr a) := by
  obtain ⟨e, e1, e2, ez⟩ := h.size
  exact ⟨e, e1, Int.le_trans e2 (two_le (cnt_small hi).2), ez⟩
theorem dn_sm {D : Int} {k n : Nat} {q : Rat} (h : Dn D k q) (d0 : 0 < D) (hd : D < 2 ^ 60) (hk : k ≤ n) (hn : 60 ≤ n) : Sm n q := h.sm (by omega) (show D.natAbs < 2 ^ 60 by omega) hk hn
theorem st_wf (h : StI dr i s) (hi : i ≤ npOf dr) : WfM (namesD dr) s.1 := by
  have hm := many_rng dr
  have hn := np_le dr
  obtain ⟨e, e1, e2, ez⟩ := st_den h hi
  obtain ⟨b1, b2⟩ := Bd_rng _ (cnt_small hi).1
  refine ⟨by rw [h.many]; simp [namesD], by rw [h.many]; omega, by rw [h.len]; omega, fun x hx => ?_⟩
  obtain ⟨j, hj, rfl⟩ := List.getElem_of_mem hx
  have ej : s.1.nodes[j] = nodeAt s.1 j := by
    have := nodeAt_get (m := s.1) hj
    rw [List.getElem?_eq_getElem hj] at this
    exact Option.some.inj this
  rw [ej]
  have hj' : j < npOf dr := by rw [← h.len]; exact hj
  rw [h.many]
  refine ⟨?_, by rw [h.ru j hj']; simp, h.pl j hj', by rw [h.po j hj']; simp, fun q hq => ?_, fun q hq => ?_⟩
  · rw [h.g j hj']
    exact dn_sm (grow_at dr j).g1 (by decide) (by decide) (by decide) (by decide)
  · obtain ⟨a, ha, rfl⟩ := List.getElem_of_mem hq
    rw [← getQ_lt ha]
    obtain ⟨w, lo, hi2⟩ := ez j hj' a
    exact dn_sm (dn_of (e := 60) (b := 60) w (by omega) (by omega) lo hi2 (by omega)) (by omega) (by omega) (by decide) (by decide)
  · obtain ⟨a, ha, rfl⟩ := List.getElem_of_mem hq
    rw [← getQ_lt ha]
    obtain ⟨w, lo, hi2⟩ := po_ok h hj' a
    exact dn_sm (dn_of (E := 2) (B := 1) (e := 60) (b := 60) w (by decide) (by decide) lo hi2 (by decide)) (by decide) (by decide) (by decide) (by decide)
theorem drawn_WL {n : Nat} {F : Int} {ws : List Rat} (h : DrawnW n F ws) (hF : F ≤ 24) : ∃ d : Int, d ≠ 0 ∧ d.natAbs < 2 ^ 5 ∧ DnL d 3 ws := by
  obtain ⟨d, d1, d2, dp⟩ := h.S0
  refine ⟨d, by omega, by omega, fun c => ?_⟩
  obtain ⟨p, p0, p4, hp⟩ := dp c
  exact ⟨p, hp, by omega⟩
theorem facS_le (np : Nat) : facS np ≤ 24 := by unfold facS; split <;> decide
theorem facSG_le (np : Nat) : facS np * facG np ≤ 512 := by unfold facS facG; split <;> decide
theorem st_price (h : StI dr i s) (hi : i ≤ npOf dr) {k : Nat} (hk : k < npOf dr) (h0 : 0 < (kids s.1 k).length) : (kids s.1 k).length ≤ 6 ∧ (7 < npOf dr → (kids s.1 k).length = 1 ∨ (kids s.1 k).length = 2 ∨ (kids s.1 k).length = 3) ∧ PriceOk s.1 k (wsOf dr s.1 k) ∧ DrawnW (kids s.1 k).length (facS (npOf dr)) (wsOf dr s.1 k) := by
  obtain ⟨k6, k7, k3, _⟩ := (shp_facts dr).1 k hk
  rw [← h.kids k] at k6 k7 k3
  have DW : DrawnW (kids s.1 k).length (facS (npOf dr)) (wsOf dr s.1 k) := ws_ok h0 k6 k3
  refine ⟨k6, fun h7 => by have := k3 h7; omega, ⟨?_, DW.len, fun a ha => ?_⟩, DW⟩
  · rw [h.g k hk]
    have := (grow_at dr k).pos
    grind
  · obtain ⟨e, e1, e2, ez⟩ := st_den h hi
    obtain ⟨b1, b2⟩ := Bd_rng _ (cnt_small hi).1
    obtain ⟨d, d0, d1, dw⟩ := drawn_WL DW (facS_le _)
    have vo := vals_ok h ez k a
    have vl : (valsQ s.1 k a).length = (kids s.1 k).length := by simp [valsQ]
    have E0 : (2 * e).natAbs < 2 ^ 60 := by omega
    have vd : DnL (2 * e) 120 (valsQ s.1 k a) := DnL.of_lt fun c hc => by
      obtain ⟨w, lo, hi2⟩ := vo c (by omega)
      exact dn_of (e := 60) (b := 60) w (by omega) E0 lo hi2 (by omega)
    have dl := DW.len
    refine ⟨⟨dw.sm d0 d1 (by decide) (by decide), vd.sm (by omega) E0 (by decide) (by decide), by omega, (dw.zip vd).sumOk (mul_ne d0 (by omega)) (mulD d1 E0) (by rw [List.length_zipWith]; omega) (by decide)⟩, ?_⟩
    obtain ⟨f, f1, f2, fb⟩ := base_ok h e1 ez hk DW
    obtain ⟨w, lo, hi2⟩ := fb a
    have ff : f ≤ 512 := Int.le_trans f2 (facSG_le _)
    have u1 : 1 ≤ e * f := Int.le_trans (by decide : (1 : Int) ≤ 1 * 1) (Int.mul_le_mul e1 f1 (by decide) (by omega))
    have u2 : e * f ≤ 2 ^ 27 * 512 := Int.mul_le_mul (by omega) ff (by omega) (by decide)
    exact dn_sm (dn_of (e := 60) (b := 60) w (by omega) (by omega) lo hi2 (by omega)) (by omega) (by omega) (by decide) (by decide)
end
theorem market_ok (dr : List Int) : MarketOk dr := fun i hi => by
  have h := st_all dr i (by omega)
  refine ⟨st_wf h (by omega), fun h0 => ?_⟩
  obtain ⟨a, b, c, _⟩ := st_price h (by omega) (show npOf dr - 1 - i < npOf dr by omega) h0
  exact ⟨a, b, c⟩
theorem fin_st (dr : List Int) : StI dr (npOf dr) (stateM dr (npOf dr)) := st_all dr _ (Nat.le_refl _)
theorem fin_wf (dr : List Int) : WfM (namesD dr) (finM dr) := st_wf (fin_st dr) (Nat.le_refl _)
theorem fin_kids (dr : List Int) : ∀ k, k < (finM dr).nodes.length → (kids (finM dr) k).length ≤ 6 := fun k hk => by
  have h := fin_st dr
  have e := h.kids k
  have hk' : k < npOf dr := by rw [← h.len]; exact hk
  have := ((shp_facts dr).1 k hk').1
  rw [← e] at this
  exact this
theorem gm_at {m : Market} {k c a : Nat} (hc : c < (kids m k).length) (ha : a < m.many) : Gm m k c a = getQ (valsQ m k a) c - (nodeAt m k).g * getQ (nodeAt m k).pr a := by
  have h1 : c < (gains m k).length := by rw [gains_len]; exact hc
  have e : (gains m k).getD c [] = gainsIn m k ((kids m k).getD c 0) := by
    rw [List.getD_eq_getElem?_getD, List.getElem?_eq_getElem h1, List.getD_eq_getElem?_getD, List.getElem?_eq_getElem hc]
    simp [gains]
  unfold Gm
  rw [e, val_at hc]
  unfold gainsIn
  rw [getQ_range _ _ _ ha]
theorem gm_out {m : Market} {k c a : Nat} (h : ¬ (c < (kids m k).length ∧ a < m.many)) : Gm m k c a = 0 := by
  unfold Gm
  by_cases hc : c < (kids m k).length
  · exact getQ_ge (by rw [gain_len hc]; omega)
  · rw [List.getD_eq_getElem?_getD, List.getElem?_eq_none (by rw [gains_len]; omega)]
    exact getQ_ge (by simp)
/-- a node of the drawn market -/
theorem fin_node (dr : List Int) {k : Nat} (hk : k < npOf dr) (h0 : 0 < (kids (finM dr) k).length) : ∃ E : Int, NodeOk (finM dr) k E ((finL dr).getD k []) := by
  have h := fin_st dr
  have hm := many_rng dr
  have em : (finM dr).many = manyOf dr := h.many
  obtain ⟨e, e1, e2, ez⟩ := st_den h (Nat.le_refl _)
  obtain ⟨b1, b2⟩ := Bd_rng _ (cnt_small (Nat.le_refl (npOf dr))).1
  obtain ⟨k6, _, pok, DW⟩ := st_price h (Nat.le_refl _) hk h0
  obtain ⟨dpr, dws⟩ := h.done k hk (by omega) h0
  obtain ⟨_, k7, _, _⟩ := (shp_facts dr).1 k hk
  rw [← h.kids k] at k7
  have ew : (finL dr).getD k [] = wsOf dr (finM dr) k := dws
  rw [ew]
  have G := grow_at dr k
  rw [← h.g k hk] at G
  have rl : (nodeAt (finM dr) k).rules.length = (finM dr).many := by
    rw [em]
    have := h.ru k hk
    show (nodeAt (stateM dr (npOf dr)).1 k).rules.length = _
    rw [this]; simp
  have vl : ∀ a, (valsQ (finM dr) k a).length = (kids (finM dr) k).length := fun a => by simp [valsQ]
  obtain ⟨d, d0, d1, dw⟩ := drawn_WL DW (facS_le _)
  have pra : ∀ a, a < (finM dr).many → getQ (nodeAt (finM dr) k).pr a = priceQ (finM dr) k a (ruleA (finM dr) k a) (wsOf dr (finM dr) k) ((moreOf dr k).getD a 0) := fun a ha => by
    have e : (nodeAt (finM dr) k).pr = pricesQ (finM dr) k (wsOf dr (finM dr) k) (moreOf dr k) := dpr
    rw [e, drawn_at (by omega)]
    rfl
  refine ⟨20 * e, ⟨⟨rl, by omega, k6, by show (kids (finM dr) k).length + (finM dr).many ≤ 7; rw [em]; exact k7, by omega, by omega, fun c a => ?_⟩, by omega, G.pos, G.g1, G.g2, ?_, DW.len, d, d0, monoD d1 (by decide), dw.mono (by decide)⟩⟩
  · by_cases hca : c < (kids (finM dr) k).length ∧ a < (finM dr).many
    · rw [gm_at hca.1 hca.2]
      obtain ⟨⟨z, hz⟩, lo, hi⟩ := vals_ok h ez k a c hca.1
      obtain ⟨⟨y, hy⟩, lo2, hi2⟩ := ez k hk a
      obtain ⟨x, hx, _⟩ := G.g1
      have gu := G.up
      have gp := G.pos
      change ((getQ (valsQ (finM dr) k a) c) * ((2 * e : Int) : Rat) = z) at hz
      change (-((Bd (cntP (parsOf dr) (npOf dr)) + 1 : Int) : Rat) ≤ getQ (valsQ (finM dr) k a) c) at lo
      change (getQ (valsQ (finM dr) k a) c ≤ ((Bd (cntP (parsOf dr) (npOf dr)) + 1 : Int) : Rat)) at hi
      change (getQ (nodeAt (finM dr) k).pr a * ((2 * e : Int) : Rat) = y) at hy
      change (-(Bd (cntP (parsOf dr) (npOf dr)) : Rat) ≤ getQ (nodeAt (finM dr) k).pr a) at lo2
      change (getQ (nodeAt (finM dr) k).pr a ≤ (Bd (cntP (parsOf dr) (npOf dr)) : Rat)) at hi2
      change ((nodeAt (finM dr) k).g * ((10 : Int) : Rat) = x) at hx
      change ((nodeAt (finM dr) k).g ≤ 2) at gu
      change (0 < (nodeAt (finM dr) k).g) at gp
      have c1 := cast_le b1
      have c2 := cast_le b2
      have eB : ((Bd (cntP (parsOf dr) (npOf dr)) + 1 : Int) : Rat) = (Bd (cntP (parsOf dr) (npOf dr)) : Rat) + 1 := Rat.intCast_add _ _
      rw [eB] at lo hi
      generalize (Bd (cntP (parsOf dr) (npOf dr)) : Rat) = B at *
      generalize getQ (valsQ (finM dr) k a) c = v at *
      generalize getQ (nodeAt (finM dr) k).pr a = p at *
      generalize (nodeAt (finM dr) k).g = g at *
      have c1' : (11 : Rat) ≤ B := c1
      have c2' : B ≤ 4346 := c2
      have m1 := Rat.mul_nonneg (show 0 ≤ g by grind) (show 0 ≤ B - p by grind)
      have m2 := Rat.mul_nonneg (show 0 ≤ g by grind) (show 0 ≤ B + p by grind)
      have m3 := Rat.mul_nonneg (show 0 ≤ 2 - g by grind) (show 0 ≤ B by grind)
      have e14 : ((14000 : Int) : Rat) = 14000 := rfl
      exact dn_of (E := 20 * e) (B := 14000) (e := 34) (b := 14) ⟨10 * z - x * y, by
        have : ((20 * e : Int) : Rat) = 10 * ((2 * e : Int) : Rat) := by grind
        rw [this]
        have h3 : ((10 * z - x * y : Int) : Rat) = 10 * (z : Rat) - (x : Rat) * (y : Rat) := by grind
        rw [h3, ← hz, ← hy, ← hx]
        grind⟩ (by omega) (by omega) (by rw [e14]; grind) (by rw [e14]; grind) (by decide)
    · rw [gm_out hca]
      exact Dn.zero _ _
  · refine (isW_iff rl).mpr ⟨by omega, DW.len, DW.pos, DW.sum, fun a ha => ?_⟩
    have ms : meanF (kids (finM dr) k).length (Gm (finM dr) k) (getQ (wsOf dr (finM dr) k)) a = dotQ (wsOf dr (finM dr) k) (valsQ (finM dr) k a) - (nodeAt (finM dr) k).g * getQ (nodeAt (finM dr) k).pr a := by
      have l1 := vl a
      rw [dot_S (n := (kids (finM dr) k).length) (.inr (by omega))]
      unfold meanF
      have e : S (kids (finM dr) k).length (fun c => getQ (wsOf dr (finM dr) k) c * Gm (finM dr) k c a) = S (kids (finM dr) k).length (fun c => getQ (wsOf dr (finM dr) k) c * getQ (valsQ (finM dr) k a) c + (-((nodeAt (finM dr) k).g * getQ (nodeAt (finM dr) k).pr a)) * getQ (wsOf dr (finM dr) k) c) := S_congr fun c hc => by
        rw [gm_at hc ha]; grind
      have sm : S (kids (finM dr) k).length (getQ (wsOf dr (finM dr) k)) = 1 := DW.sum
      rw [e, S_add, S_mul, sm]; grind
    rw [ms, pra a ha]
    have gp : 0 < (nodeAt (finM dr) k).g := G.pos
    have hb : (nodeAt (finM dr) k).g * baseQ (finM dr) k a (wsOf dr (finM dr) k) = dotQ (wsOf dr (finM dr) k) (valsQ (finM dr) k a) := by
      unfold baseQ
      grind
    have nn := (more_ok ((moreOf dr k).getD a 0)).2
    have gm := Rat.mul_nonneg (show 0 ≤ (nodeAt (finM dr) k).g by grind) nn
    unfold priceQ
    generalize (nodeAt (finM dr) k).g = g at *
    generalize baseQ (finM dr) k a (wsOf dr (finM dr) k) = b at *
    generalize dotQ (wsOf dr (finM dr) k) (valsQ (finM dr) k a) = q at *
    generalize moreQ ((moreOf dr k).getD a 0) = r at *
    cases ruleA (finM dr) k a with
    | any => exact decide_eq_true (by show q - g * b = 0; grind)
    | long => exact decide_eq_true (by show q - g * (b + r) ≤ 0; grind)
    | short => exact decide_eq_true (by show 0 ≤ q - g * (b - r); grind)
    | none_ => rfl
end Hk
end
section
set_option Elab.async false
set_option linter.all false
set_option maxRecDepth 100000
set_option maxHeartbeats 1000000
set_option exponentiation.threshold 100000
/-! the drawn values, and all together -/
namespace Hk
open Hq
theorem value_ok (d : Int) : Dn 6 7 (valueQ d) := by
  unfold valueQ
  obtain ⟨h1, h2⟩ := valden d
  generalize (([1, 1, 2, 3] : List Int).getD (d / 25 % 4).toNat 1) = q at h1 h2
  have h3 := Int.emod_nonneg d (show (25 : Int) ≠ 0 by decide)
  have h4 := Int.emod_lt_of_pos d (show (0 : Int) < 25 by decide)
  rw [Rat.divInt_eq_div]
  have h5 : q = 1 ∨ q = 2 ∨ q = 3 := by omega
  rcases h5 with rfl | rfl | rfl
  · exact ⟨(d % 25 - 12) * 6, by grind, by omega⟩
  · exact ⟨(d % 25 - 12) * 3, by grind, by omega⟩
  · exact ⟨(d % 25 - 12) * 2, by grind, by omega⟩
def V6 (n : Nat) (v : List Rat) : Prop := v.length = n ∧ DnL 6 7 v
theorem values_ok (zs : List Int) (n : Nat) : V6 n (valuesQ zs n) := by
  unfold valuesQ
  refine ⟨by simp, DnL.of_lt fun i hi => ?_⟩
  simp only [List.length_map, List.length_range] at hi
  rw [getQ_range _ _ _ hi]
  exact value_ok _
theorem vl_of {n b : Nat} {V : Int} {v : List Rat} (hl : v.length = n) (v0 : V ≠ 0) (v1 : V.natAbs < 2 ^ 20) (hb : b ≤ 20) (h : DnL V b v) : VL n v := ⟨hl, V, v0, v1, h.mono hb⟩
theorem abs_dn {D : Int} {k : Nat} {q : Rat} (h : Dn D k q) : Dn D k (absQ q) := by
  unfold absQ
  split
  · exact h.neg
  · exact h
theorem by_ok (ds : List Int) : 0 < byOf ds ∧ Sm 1000 (byOf ds) ∧ ∃ D : Int, D ≠ 0 ∧ D.natAbs < 2 ^ 3 ∧ Dn D 4 (byOf ds) := by
  unfold byOf
  have h1 := Int.emod_nonneg (dAt ds 130) (show (9 : Int) ≠ 0 by decide)
  have h2 := Int.emod_lt_of_pos (dAt ds 130) (show (0 : Int) < 9 by decide)
  have h3 := Int.emod_nonneg (dAt ds 131) (show (5 : Int) ≠ 0 by decide)
  have h4 := Int.emod_lt_of_pos (dAt ds 131) (show (0 : Int) < 5 by decide)
  generalize ea : 1 + dAt ds 130 % 9 = a
  generalize eb : 1 + dAt ds 131 % 5 = b
  have b0 : b ≠ 0 := by omega
  have bp : (0 : Rat) < (b : Rat) := Rat.intCast_pos.mpr (by omega)
  have ap : (0 : Rat) < (a : Rat) := Rat.intCast_pos.mpr (by omega)
  have D : Dn b 4 (Rat.divInt a b) := ⟨a, by rw [Rat.divInt_eq_div]; grind, by omega⟩
  refine ⟨?_, D.sm b0 (show b.natAbs < 2 ^ 3 by omega) (by decide) (by decide), b, b0, by omega, D⟩
  rw [Rat.divInt_eq_div, Rat.div_def]
  exact Rat.mul_pos ap (Rat.inv_pos.mpr bp)
theorem moreF_ok (ds : List Int) : Sm 1000 (moreF ds) ∧ ∃ D : Int, D ≠ 0 ∧ D.natAbs < 2 ^ 2 ∧ Dn D 4 (moreF ds) := by
  unfold moreF
  have h1 := Int.emod_nonneg (dAt ds 132) (show (19 : Int) ≠ 0 by decide)
  have h2 := Int.emod_lt_of_pos (dAt ds 132) (show (0 : Int) < 19 by decide)
  have h3 := Int.emod_nonneg (dAt ds 133) (show (3 : Int) ≠ 0 by decide)
  have h4 := Int.emod_lt_of_pos (dAt ds 133) (show (0 : Int) < 3 by decide)
  generalize ea : dAt ds 132 % 19 - 9 = a
  generalize eb : 1 + dAt ds 133 % 3 = b
  have b0 : b ≠ 0 := by omega
  have bp : (0 : Rat) < (b : Rat) := Rat.intCast_pos.mpr (by omega)
  have D : Dn b 4 (Rat.divInt a b) := ⟨a, by rw [Rat.divInt_eq_div]; grind, by omega⟩
  exact ⟨D.sm b0 (show b.natAbs < 2 ^ 2 by omega) (by decide) (by decide), b, b0, by omega, D⟩
theorem law_gen (dr d2 : List Int) (hne : innerQ (finM dr) ≠ []) : LawF (finM dr) (nodeOf (finM dr) d2) ((finL dr).getD (nodeOf (finM dr) d2) []) (fiOf (finM dr) (nodeOf (finM dr) d2) d2) (seOf (finM dr) (nodeOf (finM dr) d2) d2) (byOf d2) (moreF d2) := by
  have hm : nodeOf (finM dr) d2 ∈ innerQ (finM dr) := getD_mem (mod_nat (List.length_pos_iff.mpr hne)).2
  generalize nodeOf (finM dr) d2 = k at hm
  obtain ⟨h1, h2⟩ := List.mem_filter.mp hm
  have hk : k < npOf dr := by
    have := List.mem_range.mp h1
    have e : (finM dr).nodes.length = npOf dr := (fin_st dr).len
    omega
  obtain ⟨E, N⟩ := fin_node dr hk (of_decide_eq_true h2)
  have f6 : V6 (kids (finM dr) k).length (fiOf (finM dr) k d2) := values_ok _ _
  have s6 : V6 (kids (finM dr) k).length (seOf (finM dr) k d2) := values_ok _ _
  generalize fiOf (finM dr) k d2 = fi at f6
  generalize seOf (finM dr) k d2 = se at s6
  obtain ⟨b0, bs, D, D0, D1, bD⟩ := by_ok d2
  obtain ⟨ms, F, F0, F1, mF⟩ := moreF_ok d2
  generalize byOf d2 = bq at *
  generalize moreF d2 = mq at *
  refine law_all_node N (vl_of f6.1 (by decide) (by decide) (by decide) f6.2) (vl_of s6.1 (by decide) (by decide) (by decide) s6.2) ?_ ?_ ?_ ?_ ?_ b0 bs ms
  · refine vl_of (V := 6) (b := 8) (by unfold addL; simp [f6.1]) (by decide) (by decide) (by decide) (DnL.of_lt fun i hi => ?_)
    unfold addL at hi ⊢
    simp only [List.length_map, List.length_range] at hi
    rw [getQ_range _ _ _ hi]
    exact (f6.2 i).add (s6.2 i)
  · refine vl_of (V := 6) (b := 7) (by unfold opposite; simp [s6.1]) (by decide) (by decide) (by decide) (DnL.of_lt fun i hi => ?_)
    unfold opposite at hi ⊢
    rw [List.length_map] at hi
    rw [getQ_map _ _ _ hi]
    exact (s6.2 i).nsub
  · refine vl_of (V := D * 6) (b := 11) (by unfold mulL; simp [f6.1]) (mul_ne D0 (by decide)) (monoD (mulD D1 (show (6 : Int).natAbs < 2 ^ 3 by decide)) (by decide)) (by decide) (DnL.of_lt fun i hi => ?_)
    unfold mulL at hi ⊢
    rw [List.length_map] at hi
    rw [getQ_map _ _ _ hi]
    exact bD.mul (f6.2 i)
  · refine vl_of (V := 6 * F) (b := 10) (by unfold shiftL; simp [f6.1]) (mul_ne (by decide) F0) (monoD (mulD (show (6 : Int).natAbs < 2 ^ 3 by decide) F1) (by decide)) (by decide) (DnL.of_lt fun i hi => ?_)
    unfold shiftL at hi ⊢
    rw [List.length_map] at hi
    rw [getQ_map _ _ _ hi]
    exact ((f6.2 i).wide F1).add ((mF.wideL (show (6 : Int).natAbs < 2 ^ 3 by decide)).mono (by decide))
  · refine vl_of (V := 6) (b := 8) (by unfold highL; simp [f6.1]) (by decide) (by decide) (by decide) (DnL.of_lt fun i hi => ?_)
    unfold highL at hi ⊢
    simp only [List.length_map, List.length_range] at hi
    rw [getQ_range _ _ _ hi]
    exact (f6.2 i).add (abs_dn (s6.2 i))
theorem law_all (ns : List Int) (h : ns.length ≤ 63) : R_law [scrD ns] (.bool true) := by
  refine ⟨ns, drOf ns, drawsOf ns 150, rfl, by omega, rfl, rfl, ?_⟩
  generalize drOf ns = dr
  generalize drawsOf ns 150 = d2
  exact ⟨market_ok dr, fin_wf dr, fin_kids dr, law_gen dr d2, rfl⟩
end Hk
end
section
set_option Elab.async false
set_option linter.all false
set_option maxRecDepth 100000
set_option maxHeartbeats 0
namespace Hk
open PySem PySem.Spec PyProof.Rows L2
theorem facts_law {P : Program} {w : World} {K : PySem.W.Frag} {mg : Str → Option Value} {f : Addr} (T : Top K mg) (hfa : mg ("law" : Str) = some (.ref f)) :
    ∃ fd : FuncData, (∀ (s : Shared) (v : Value), BindsTo s fd ⟨[v], []⟩ [("_law_script", v)]) ∧ ∀ base : Heap, FnOk P w K mg base CX0 12 f fd ["_law_script"] (spD K 1 R_law) := by
  obtain ⟨fd, F⟩ := T.fn 73 dd_law rfl
  have e := hfa.symm.trans (T.glo 73 dd_law rfl)
  cases e
  have b := FunD.bindsA (ps := ["_law_script"]) F fun _ _ _ _ _ _ us hl => match us, hl with | [_], _ => rfl
  exact ⟨fd, fun s v => b s [v] rfl, fun base => law_ok T F⟩
end Hk
open PySem PySem.W PySem.Calls PyProof.Rows
theorem PySem.Challenge.cw_surehedge_k47_whole_costs_together_holds : PySem.Challenge.rw_surehedge_k47_whole_costs_together.Holds := by
  w_on; o_law
  refine HandSHeadRun.head_imp (r := Hk.Rr) (q := view Hk.Rr.prog [0, 86]) (H := Hk.hkX) (ob := Hk.ob) (M := 20000) (loose := Hk.looseL) (d := HandSHeadRun.topDef Hk.Rr.prog 86) (kwd := []) Hk.ob_eq Hk.run
    (by kernel_rfl) (by kernel_rfl) (by kernel_rfl) (by rfl) (by first | assumption | decide +kernel) (by decide +kernel) ⟨rfl, rfl, rfl, rfl, rfl, by decide +kernel⟩ ?hw ?hc
  case hw => w_witness2
  case hc =>
    refine L2.walk_ofE (l := PySem.Challenge.rw_surehedge_k47_whole_costs_together) (n := 63) (k := 12) (x := "_law_script") (CX := L2.CX0) rfl (by decide) (by kernel_rfl) ⟨rfl, by decide, by decide⟩ ?F (fun _ _ _ _ z => z)
    intro w mg fa h Y G hmg0
    obtain ⟨K, KX, c⟩ := Y
    have hmg : mg ("law" : PySem.Str) = some (.ref fa) := by
      have e : (HandSHeadRun.topDef Hk.Rr.prog 86).name = ("law" : PySem.Str) := by kernel_rfl
      rw [← e]
      exact hmg0
    have T := Hk.Top.of KX G c
    obtain ⟨fd, hb, hF⟩ := Hk.facts_law (P := (PySem.Challenge.rw_surehedge_k47_whole_costs_together).prog) (w := w) T hmg
    refine ⟨K, fd, Hk.spD K 1 Hk.R_law, KX, hb, fun H a ns hl _ hS => ⟨fun _ => False, [Hk.scrD ns], .bool true, .cons ?_ .nil, rfl, fun _ z => z.elim, Hk.law_all ns hl, fun v H' _ r => r.blv⟩, fun base _ _ => hF base⟩
    exact Hk.scr_is (Evl.ex_l (fun b o q => by rw [Hk.cut_of (fun z => z)]; exact q) hS)
end
