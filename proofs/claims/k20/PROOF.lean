import PyProof.Rows.All
import Wide.All
import OpenK.AllK
import Wide.FinOn
import HandS.ForMost
import HandS.IsInst
import HandS.Wide
import HandS.Steps
import HandS.Style
import HandS.TupAny
import HandS.Codes
import HandS.SortInts
import HandS.TryOnly
import HandS.Walk
import KE.GoesEnum
import HandS.TupLen
import KE.KDictDisplayH
import KE.KDictKeyed
import KE.KDictOf
import PySem.Challenge.RW_resttricks_k20_whole_multiples_of_sums
set_option Elab.async false
set_option linter.all false
set_option maxRecDepth 100000
set_option maxHeartbeats 4000000
/-! ## the layer: what is owned, step by step -/
namespace R
open PySem PySem.Spec PyProof.Rows L2
open PySem.W (Frag)

def del1 (H : Hp) (a : Addr) : Hp := fun b => if b = a then none else H b
/-- B: what stays; Lw: what this frame may change, as it stands -/
structure Own (B : Hp) (Lw : List (Addr × HO)) (H : Hp) : Prop where
  st : ∀ a o, B a = some o → H a = some o
  ow : ∀ p ∈ Lw, H p.1 = some p.2
  no : ∀ p ∈ Lw, B p.1 = none
  nd : (Lw.map (·.1)).Nodup
theorem Own.refl (H : Hp) : Own H [] H := ⟨fun _ _ h => h, fun _ h => by simp at h, fun _ h => by simp at h, by simp⟩
theorem Own.refl1 {H : Hp} {a : Addr} {o : HO} (h : H a = some o) : Own (del1 H a) [(a, o)] H := by
  refine ⟨fun b u e => ?_, fun p hp => ?_, fun p hp => ?_, by simp⟩
  · unfold del1 at e
    split at e
    · cases e
    · exact e
  · have e : p = (a, o) := by simpa using hp
    rw [e]; exact h
  · have e : p = (a, o) := by simpa using hp
    rw [e]; unfold del1; rw [if_pos rfl]
section
variable {B H H' : Hp} {Lw : List (Addr × HO)} {a b p : Addr} {o u : HO} {K : Frag} {xs : List V}
theorem Own.get (O : Own B Lw H) (i : Nat) (h : Lw[i]? = some (a, o)) : H a = some o := O.ow (a, o) (List.mem_of_getElem? h)
theorem Own.gone (O : Own B Lw H) (i : Nat) (h : Lw[i]? = some (a, o)) : B a = none := O.no (a, o) (List.mem_of_getElem? h)
theorem Own.seq (O : Own B Lw H) (h : SqL K B a xs) : SqL K H a xs := by
  rcases h with (h | ⟨q, h⟩) | h
  · exact .inl (.inl (O.st _ _ h))
  · exact .inl (.inr ⟨q, O.st _ _ h⟩)
  · exact .inr h
theorem Own.tup (O : Own B Lw H) (h : SqT K B a xs) : SqT K H a xs := by
  rcases h with (h | ⟨q, h⟩) | h
  · exact .inl (.inl (O.st _ _ h))
  · exact .inl (.inr ⟨q, O.st _ _ h⟩)
  · exact .inr h
theorem Own.sq (O : Own B Lw H) (i : Nat) (h : Lw[i]? = some (a, .lst xs)) : SqL K H a xs := SqL.of (O.get i h)
theorem Own.tq (O : Own B Lw H) (i : Nat) (h : Lw[i]? = some (a, .tup xs)) : SqT K H a xs := SqT.of (O.get i h)
theorem Own.free (O : Own B Lw H) (h : H p = none) : B p = none := by
  cases q : B p with
  | none => rfl
  | some v => rw [O.st _ _ q] at h; cases h
theorem Own.out (O : Own B Lw H) (h : H p = none) : ∀ q ∈ Lw, q.1 ≠ p := fun q hq z => by
  have e := O.ow q hq
  rw [z, h] at e; cases e
/-- a new object -/
theorem Own.new (O : Own B Lw H) (h : H p = none) : Own B ((p, o) :: Lw) (upd H p o) := by
  refine ⟨fun c v e => ?_, fun q hq => ?_, fun q hq => ?_, ?_⟩
  · rw [upd_ne (ne_of_none (O.st _ _ e) h)]; exact O.st _ _ e
  · rcases List.mem_cons.mp hq with rfl | hq
    · exact upd_same
    · show upd H p o q.1 = _
      rw [upd_ne (O.out h q hq)]; exact O.ow q hq
  · rcases List.mem_cons.mp hq with rfl | hq
    · exact O.free h
    · exact O.no q hq
  · rw [List.map_cons, List.nodup_cons]
    refine ⟨fun z => ?_, O.nd⟩
    obtain ⟨q, hq, e⟩ := List.mem_map.mp z
    exact O.out h q hq e
theorem set_map1 : ∀ {Lw : List (Addr × HO)} {i : Nat} {a : Addr} {o o' : HO}, Lw[i]? = some (a, o) → (Lw.set i (a, o')).map (·.1) = Lw.map (·.1)
  | [], _, _, _, _, h => by simp at h
  | x :: r, 0, a, o, o', h => by
    have e : x = (a, o) := by simpa using h
    rw [e]; rfl
  | x :: r, i + 1, a, o, o', h => by
    have ih := set_map1 (Lw := r) (i := i) (o' := o') (by simpa using h)
    show x.1 :: (r.set i (a, o')).map (·.1) = x.1 :: r.map (·.1)
    rw [ih]
theorem mem_set1 : ∀ {Lw : List (Addr × HO)} {i : Nat} {a : Addr} {o o' : HO} {q : Addr × HO}, (Lw.map (·.1)).Nodup → Lw[i]? = some (a, o) → q ∈ Lw.set i (a, o') → q = (a, o') ∨ (q ∈ Lw ∧ q.1 ≠ a)
  | [], _, _, _, _, _, _, h, _ => by simp at h
  | x :: r, 0, a, o, o', q, nd, h, hq => by
    have e : x = (a, o) := by simpa using h
    subst e
    rw [List.map_cons, List.nodup_cons] at nd
    rcases List.mem_cons.mp hq with rfl | hq
    · exact .inl rfl
    · exact .inr ⟨List.mem_cons_of_mem _ hq, fun z => nd.1 (List.mem_map.mpr ⟨q, hq, z⟩)⟩
  | x :: r, i + 1, a, o, o', q, nd, h, hq => by
    rw [List.map_cons, List.nodup_cons] at nd
    have h' : r[i]? = some (a, o) := by simpa using h
    rcases List.mem_cons.mp (show q ∈ x :: r.set i (a, o') from hq) with rfl | hq
    · refine .inr ⟨List.mem_cons_self, fun z => nd.1 (List.mem_map.mpr ⟨(a, o), List.mem_of_getElem? h', z.symm⟩)⟩
    · rcases mem_set1 nd.2 h' hq with z | ⟨z1, z2⟩
      · exact .inl z
      · exact .inr ⟨List.mem_cons_of_mem _ z1, z2⟩
/-- what is owned is changed by someone who keeps all else -/
theorem Own.but (O : Own B Lw H) (i : Nat) (h : Lw[i]? = some (a, o)) (k : ∀ b v, b ≠ a → H b = some v → H' b = some v) (ha : H' a = some u) : Own B (Lw.set i (a, u)) H' := by
  have hB := O.gone i h
  refine ⟨fun c v e => k c v (fun z => ?_) (O.st _ _ e), fun q hq => ?_, fun q hq => ?_, ?_⟩
  · rw [z, hB] at e; cases e
  · rcases mem_set1 O.nd h hq with rfl | ⟨h1, h2⟩
    · exact ha
    · exact k _ _ h2 (O.ow q h1)
  · rcases mem_set1 O.nd h hq with rfl | ⟨h1, h2⟩
    · exact hB
    · exact O.no q h1
  · rw [set_map1 h]; exact O.nd
theorem Own.put (O : Own B Lw H) (i : Nat) (h : Lw[i]? = some (a, o)) : Own B (Lw.set i (a, u)) (upd H a u) :=
  O.but i h (fun b v hb e => by rw [upd_ne hb]; exact e) upd_same
/-- more stands now -/
theorem Own.same (O : Own B Lw H) (s : Same H H') : Own B Lw H' := ⟨fun c v e => s _ _ (O.st _ _ e), fun q hq => s _ _ (O.ow q hq), O.no, O.nd⟩
theorem Own.tail {x : Addr × HO} (O : Own B (x :: Lw) H) : Own B Lw H := ⟨O.st, fun q hq => O.ow q (List.mem_cons_of_mem _ hq), fun q hq => O.no q (List.mem_cons_of_mem _ hq), (List.nodup_cons.mp (by simpa using O.nd)).2⟩
theorem Own.tail2 {x y : Addr × HO} (O : Own B (y :: x :: Lw) H) : Own B (y :: Lw) H := by
  have hn := O.nd
  simp only [List.map_cons, List.nodup_cons, List.mem_cons, not_or] at hn
  refine ⟨O.st, fun q hq => O.ow q ?_, fun q hq => O.no q ?_, ?_⟩
  · rcases List.mem_cons.mp hq with rfl | hq
    · exact List.mem_cons_self
    · exact List.mem_cons_of_mem _ (List.mem_cons_of_mem _ hq)
  · rcases List.mem_cons.mp hq with rfl | hq
    · exact List.mem_cons_self
    · exact List.mem_cons_of_mem _ (List.mem_cons_of_mem _ hq)
  · simp only [List.map_cons, List.nodup_cons]
    exact ⟨hn.1.2, hn.2.2⟩
theorem Own.toSame (O : Own H Lw H') : Same H H' := O.st
/-- at the end: all but a is as it was -/
theorem Own.toBut (O : Own (del1 H a) Lw H') : ∀ b v, b ≠ a → H b = some v → H' b = some v := fun b v hb e => O.st b v (by unfold del1; rw [if_neg hb]; exact e)
theorem del1_seq {o : HO} (h : SqL K H b xs) (ha : H a = some o) (ho : ∀ ys, o ≠ .lst ys ∨ b ≠ a) (hf : ∀ q w, o ≠ .frz q w) (hb : b ≠ a) : SqL K (del1 H a) b xs := by
  rcases h with (h | ⟨q, h⟩) | h
  · exact .inl (.inl (by unfold del1; rw [if_neg hb]; exact h))
  · exact .inl (.inr ⟨q, by unfold del1; rw [if_neg hb]; exact h⟩)
  · exact .inr h
theorem del1_ne {H : Hp} {a b : Addr} (h : b ≠ a) : del1 H a b = H b := by unfold del1; rw [if_neg h]
end
end R
namespace R
open PySem L2
theorem Own.swap {B H : Hp} {Lw : List (Addr × HO)} {x y : Addr × HO} (O : Own B (x :: y :: Lw) H) : Own B (y :: x :: Lw) H := by
  refine ⟨O.st, fun q hq => O.ow q ?_, fun q hq => O.no q ?_, ?_⟩
  · simp only [List.mem_cons] at hq ⊢
    rcases hq with z | z | z
    · exact .inr (.inl z)
    · exact .inl z
    · exact .inr (.inr z)
  · simp only [List.mem_cons] at hq ⊢
    rcases hq with z | z | z
    · exact .inr (.inl z)
    · exact .inl z
    · exact .inr (.inr z)
  · have h := O.nd
    simp only [List.map_cons, List.nodup_cons, List.mem_cons, not_or] at h ⊢
    exact ⟨⟨fun z => h.1.1 z.symm, h.2.1⟩, h.1.2, h.2.2⟩
end R
namespace R
open PySem L2
open PySem.W (Frag)
section
variable {B H H' : Hp} {Lw : List (Addr × HO)} {p : Addr} {o : HO} {K : Frag}
/-- what is owned is let stand for good -/
theorem Own.fix (O : Own B ((p, o) :: Lw) H) : Own (upd B p o) Lw H := by
  have hn := O.nd
  simp only [List.map_cons, List.nodup_cons] at hn
  refine ⟨fun a v e => ?_, fun q hq => O.ow q (List.mem_cons_of_mem _ hq), fun q hq => ?_, hn.2⟩
  · by_cases h : a = p
    · subst h
      rw [upd_same] at e
      rw [← e]
      exact O.ow (a, o) List.mem_cons_self
    · rw [upd_ne h] at e; exact O.st _ _ e
  · have ne : q.1 ≠ p := fun z => hn.1 (List.mem_map.mpr ⟨q, hq, z⟩)
    rw [upd_ne ne]; exact O.no q (List.mem_cons_of_mem _ hq)
theorem Own.fixS (O : Own B ((p, o) :: Lw) H) : Same B (upd B p o) := fun b v e => by
  have h : B p = none := O.no (p, o) List.mem_cons_self
  rw [upd_ne (ne_of_none e h)]; exact e
theorem Own.sub {B' : Hp} (O : Own B' Lw H) (s : Same B B') : Own B Lw H := ⟨fun a v e => O.st _ _ (s _ _ e), O.ow, fun q hq => s.free (O.no q hq), O.nd⟩
end
mutual
theorem dp_same {K : Frag} {H H' : Hp} (s : Same H H') : ∀ (d : PyData) (v : V), Dp K H v d → Dp K H' v d
  | .none, _, h => by cases h; exact .non
  | .bool b, _, h => by cases h; exact .bl b
  | .int i, _, h => by cases h; exact .int i
  | .str x, _, h => by cases h; exact .str x
  | .list ds, _, h => by
    cases h with
    | lst h1 h2 => exact .lst (s.seq h1) (dpAll_same s ds _ h2)
  | .tuple ds, _, h => by
    cases h with
    | tup h1 h2 =>
      refine .tup ?_ (dpAll_same s ds _ h2)
      rcases h1 with (h | ⟨q, h⟩) | h
      · exact .inl (.inl (s _ _ h))
      · exact .inl (.inr ⟨q, s _ _ h⟩)
      · exact .inr h
  | .dict _, _, h => by cases h
theorem dpAll_same {K : Frag} {H H' : Hp} (s : Same H H') : ∀ (ds : List PyData) (vs : List V), DpAll K H vs ds → DpAll K H' vs ds
  | [], _, h => by cases h; exact .nil
  | d :: ds, _, h => by
    cases h with
    | cons h1 h2 => exact .cons (dp_same s d _ h1) (dpAll_same s ds _ h2)
end
end R
namespace R
open PySem L2
theorem Own.got {B H H' : Hp} {Lw : List (Addr × HO)} {p : Addr} {o : HO} (O : Own B Lw H) (s : Same H H') (h : H p = none) (h' : H' p = some o) : Own B ((p, o) :: Lw) H' := by
  have O1 := O.same s
  refine ⟨O1.st, fun q hq => ?_, fun q hq => ?_, ?_⟩
  · rcases List.mem_cons.mp hq with rfl | hq
    · exact h'
    · exact O1.ow q hq
  · rcases List.mem_cons.mp hq with rfl | hq
    · exact O.free h
    · exact O1.no q hq
  · rw [List.map_cons, List.nodup_cons]
    refine ⟨fun z => ?_, O.nd⟩
    obtain ⟨q, hq, e⟩ := List.mem_map.mp z
    exact O.out h q hq e
end R
namespace R
open PySem L2
theorem Own.butNew {B H H' : Hp} {Lw : List (Addr × HO)} {a p : Addr} {o u v : HO} (O : Own B Lw H) (i : Nat) (h : Lw[i]? = some (a, o)) (k : ∀ b v, b ≠ a → H b = some v → H' b = some v) (ha : H' a = some u) (hp : H p = none) (hv : H' p = some v) : Own B ((p, v) :: Lw.set i (a, u)) H' := by
  have O1 := O.but i h k ha
  refine ⟨O1.st, fun q hq => ?_, fun q hq => ?_, ?_⟩
  · rcases List.mem_cons.mp hq with rfl | hq
    · exact hv
    · exact O1.ow q hq
  · rcases List.mem_cons.mp hq with rfl | hq
    · exact O.free hp
    · exact O1.no q hq
  · rw [List.map_cons, List.nodup_cons]
    refine ⟨fun z => ?_, O1.nd⟩
    rw [set_map1 h] at z
    obtain ⟨q, hq, e⟩ := List.mem_map.mp z
    exact O.out hp q hq e
/-- what is new to the owner was new ahead of its changes -/
theorem Own.was {H H0 : Hp} {Lw : List (Addr × HO)} {a p : Addr} {o : HO} (O : Own (del1 H0 a) Lw H) (ha : H0 a = some o) (hl : ∃ (i : Nat) (u : HO), Lw[i]? = some (a, u)) (hp : H p = none) : H0 p = none := by
  cases e : H0 p with
  | none => rfl
  | some w =>
    by_cases z : p = a
    · obtain ⟨i, u, h⟩ := hl
      have q := O.get i h
      rw [← z, hp] at q
      cases q
    · have q := O.st p w (by unfold del1; rw [if_neg z]; exact e)
      rw [hp] at q
      cases q
end R
namespace R
open PySem L2
theorem Own.less {B H : Hp} {Lw Lw' : List (Addr × HO)} (O : Own B Lw H) (s : Lw'.Sublist Lw) : Own B Lw' H :=
  ⟨O.st, fun q hq => O.ow q (s.subset hq), fun q hq => O.no q (s.subset hq), O.nd.sublist (s.map _)⟩
theorem Own.drop {B H : Hp} {Lw : List (Addr × HO)} (O : Own B Lw H) (n : Nat) : Own B (Lw.drop n) H := O.less (List.drop_sublist n Lw)
end R
namespace R
open PySem L2
theorem Own.perm {B H : Hp} {Lw Lw' : List (Addr × HO)} (O : Own B Lw H) (p : Lw'.Perm Lw) : Own B Lw' H :=
  ⟨O.st, fun q hq => O.ow q (p.mem_iff.mp hq), fun q hq => O.no q (p.mem_iff.mp hq), ((p.map _).nodup_iff).mpr O.nd⟩
/-- what a call has laid anew, beside what is owned -/
theorem Own.join {B H H' : Hp} {Lw New : List (Addr × HO)} (O : Own B Lw H) (O2 : Own H New H') : Own B (New ++ Lw) H' := by
  refine ⟨fun a u e => O2.st _ _ (O.st _ _ e), fun q hq => ?_, fun q hq => ?_, ?_⟩
  · rcases List.mem_append.mp hq with hq | hq
    · exact O2.ow q hq
    · exact O2.st _ _ (O.ow q hq)
  · rcases List.mem_append.mp hq with hq | hq
    · exact O.free (O2.no q hq)
    · exact O.no q hq
  · rw [List.map_append, List.nodup_append]
    refine ⟨O2.nd, O.nd, fun a ha b hb e => ?_⟩
    obtain ⟨q, hq, rfl⟩ := List.mem_map.mp ha
    obtain ⟨r, hr, rfl⟩ := List.mem_map.mp hb
    have z := O.ow r hr
    rw [← e, O2.no q hq] at z
    cases z
/-- the first ones are let stand for good -/
theorem Own.fixTo {H : Hp} {Lw : List (Addr × HO)} : ∀ {New : List (Addr × HO)} {B : Hp}, Own B (New ++ Lw) H → ∃ B', Same B B' ∧ Own B' Lw H ∧ ∀ q ∈ New, B' q.1 = some q.2
  | [], B, O => ⟨B, Same.refl B, O, fun _ h => by simp at h⟩
  | (p, u) :: New, B, O => by
    have O1 : Own B ((p, u) :: (New ++ Lw)) H := O
    obtain ⟨B', s, O', h⟩ := Own.fixTo (O1.fix)
    refine ⟨B', O1.fixS.trans s, O', fun q hq => ?_⟩
    rcases List.mem_cons.mp hq with rfl | hq
    · exact s _ _ upd_same
    · exact h q hq
end R

namespace R
open PySem PySem.Spec PyProof.Rows L2
open PySem.W (Frag)
/-! ### rules of our own -/
theorem op_mulX {X : Cx} : OpR X (binaryOp .Mult) (rI IntMulOk fun i j => .int (i * j)) := opI fun _ _ _ _ _ _ _ hc q => mul_int q hc
theorem mx_l {i j : Int} (h1 : -(2 ^ 64) < i) (h2 : i < 2 ^ 64) : IntMulOk i j := CMul.ok (.inl ⟨h1, h2⟩)
theorem mx_r {i j : Int} (h1 : -(2 ^ 64) < j) (h2 : j < 2 ^ 64) : IntMulOk i j := CMul.ok (.inr ⟨h1, h2⟩)
theorem pe_globI {X : Cx} {x : Str} {i : Int} {pos : Pos} (hg : Gl X x) (hm : ∃ t, X.mg x = some (.int i t)) (hd : (x == ("__debug__" : Str)) = false := by decide) : PE X (.Name x pos) (tC (.int i)) := by
  obtain ⟨t, h⟩ := hm
  exact pe_glob hg h ⟨t, rfl⟩ hd
/-- len, tuple(..), list(..) of a list or tuple -/
def rLen (K : Frag) : List V → Hp → VK → Prop := fun xs H Q => ∃ p ys, xs = [.ref p] ∧ (SqL K H p ys ∨ SqT K H p ys) ∧ Q (.int ys.length) H
theorem call_lenR {X : Cx} : CallR X (.builtin "len") (rLen X.K) := call_len_seq
def rAbs : List V → Hp → VK → Prop := fun xs H Q => ∃ i, xs = [.int i] ∧ Q (.int (if i < 0 then -i else i)) H
theorem call_absR {X : Cx} : CallR X (.builtin "abs") rAbs := call_abs
def rTupOf (K : Frag) : List V → Hp → VK → Prop := fun xs H Q => ∃ p ys, xs = [.ref p] ∧ ((SqL K H p ys ∧ ∀ l, H l = none → Q (.ref l) (upd H l (.tup ys))) ∨ (SqT K H p ys ∧ Q (.ref p) H))
theorem call_tupR {X : Cx} : CallR X (.type "tuple") (rTupOf X.K) := call_tuple_of
def rLstOf (K : Frag) : List V → Hp → VK → Prop := fun xs H Q => ∃ p ys, xs = [.ref p] ∧ (SqL K H p ys ∨ SqT K H p ys) ∧ ∀ l, H l = none → Q (.ref l) (upd H l (.lst ys))
theorem call_lstR {X : Cx} : CallR X (.type "list") (rLstOf X.K) := call_list_of
/-! ### the steps -/
/-- a new list, a new tuple -/
def NewL (xs : List V) (H : Hp) (Q : VK) : Prop := xs.length ≤ sizeLine ∧ ∀ p, H p = none → Q (.ref p) (upd H p (.lst xs))
def NewT (xs : List V) (H : Hp) (Q : VK) : Prop := xs.length ≤ sizeLine ∧ ∀ p, H p = none → Q (.ref p) (upd H p (.tup xs))
section
variable {t u : TS} {D : Ends} {σ : L2.St} {H : Hp} {te ta tb tc : TE} {g : TG} {c d : TT} {Q : VK} {v x y : V} {i : Nat} {r r' : R2} {QB : Bool → Hp → Prop} {QL : List V → Hp → Prop} {K : Frag} {tr : TA} {tl th : TO}
theorem a_seq (h : t { D with nx := u D } σ H) : tSeq t u D σ H := h
theorem a_next (h : D.nx σ H) : tNext D σ H := h
theorem a_asg (h : te σ H fun x H1 => g x σ H1 D.nx) : tAsg te g D σ H := h
theorem a_gname {Qs : L2.St → Hp → Prop} (h : Qs (σ.set i (some v)) H) : gName i v σ H Qs := h
theorem a_drop (h : te σ H fun _ H1 => D.nx σ H1) : tDrop te D σ H := h
theorem a_ret (h : te σ H D.rt) : tRet te D σ H := h
theorem a_retN (h : D.rt .non H) : tRetN D σ H := h
theorem a_if (h : c σ H fun b H1 => if b = true then t D σ H1 else u D σ H1) : tIfS c t u D σ H := h
theorem a_var (e : σ[i]? = some (some v)) (h : Q v H) : tVar i σ H Q := ⟨v, e, h⟩
theorem a_c (h : Q v H) : tC v σ H Q := h
theorem a_op (h : ta σ H fun x H1 => tb σ H1 fun y H2 => r x y H2 Q) : tOp r ta tb σ H Q := h
theorem a_un {f : V → Hp → VK → Prop} (h : ta σ H fun x H1 => f x H1 Q) : tUn f ta σ H Q := h
theorem a_neg {n : Int} (h : Q (.int (-n)) H) : rU (fun i => .int (-i)) (.int n) H Q := ⟨n, rfl, h⟩
theorem a_test (h : te σ H fun x H' => ∃ k, x = .bl k ∧ QB k H') : tTest te σ H QB := h
theorem a_tB (h : te σ H fun x H' => ∃ k, x = .bl k ∧ QB k H') : tB te σ H QB := h
theorem a_bk {b : Bool} (h : QB b H) : ∃ k, V.bl b = .bl k ∧ QB k H := ⟨b, rfl, h⟩
theorem a_and (h : c σ H fun b H1 => if b = true then d σ H1 QB else QB false H1) : tAnd c d σ H QB := h
theorem a_or (h : c σ H fun b H1 => if b = true then QB true H1 else d σ H1 QB) : tOr c d σ H QB := h
theorem a_not (h : c σ H fun b H1 => QB (!b) H1) : tNot c σ H QB := h
theorem a_andV (h : ta σ H fun x H1 => ∃ b, x = .bl b ∧ if b = true then tb σ H1 Q else Q (.bl false) H1) : tAndV ta tb σ H Q := h
theorem a_orV (h : ta σ H fun x H1 => ∃ b, x = .bl b ∧ if b = true then Q (.bl true) H1 else tb σ H1 Q) : tOrV ta tb σ H Q := h
theorem a_notV (h : ta σ H fun x H1 => ∃ b, x = .bl b ∧ Q (.bl (!b)) H1) : tNotV ta σ H Q := h
theorem a_bv {b : Bool} {A : Bool → Prop} (h : A b) : ∃ k, V.bl b = .bl k ∧ A k := ⟨b, rfl, h⟩
theorem a_ifE (h : c σ H fun b H1 => if b = true then ta σ H1 Q else tb σ H1 Q) : tIf c ta tb σ H Q := h
theorem a_nil (h : QL [] H) : tNil σ H QL := h
theorem a_cons (h : te σ H fun x H1 => tr σ H1 fun xs H2 => QL (x :: xs) H2) : tCons te tr σ H QL := h
theorem a_tup (h : tr σ H fun xs H1 => NewT xs H1 Q) : tTup tr σ H Q := h
theorem a_lst (h : tr σ H fun xs H1 => NewL xs H1 Q) : tLst tr σ H Q := h
theorem a_cb {f : List V → Hp → VK → Prop} (h : tr σ H fun vs H1 => f vs H1 Q) : tCB f tr σ H Q := h
theorem a_call {sp : Sp} {dvs : List V} {E : XK} (h : tr σ H fun vs H1 => sp (vs ++ dvs) H1 Q E) : tCall sp dvs E tr σ H Q := h
theorem a_chain (h : ta σ H fun x H1 => tb σ H1 fun y H2 => r x y H2 fun z H3 => ∃ k, z = .bl k ∧ (if k = true then tc σ H3 fun w' H4 => r' y w' H4 Q else Q (.bl false) H3)) : tChain r r' ta tb tc σ H Q := h
theorem a_sl {f : V → Option Int → Option Int → Hp → VK → Prop} (h : te σ H fun x H1 => tl σ H1 fun l H2 => th σ H2 fun u H3 => f x l u H3 Q) : tSl f te tl th σ H Q := h
theorem a_npart {Qo : Option Int → Hp → Prop} (h : Qo none H) : tNoPart σ H Qo := h
theorem a_part {Qo : Option Int → Hp → Prop} (h : te σ H fun x H1 => ∃ i, x = .int i ∧ Qo (some i) H1) : tPart te σ H Qo := h
theorem a_ik {n : Int} {A : Int → Prop} (h : A n) : ∃ i, V.int n = .int i ∧ A i := ⟨n, rfl, h⟩
theorem a_gsub {to ti : TE} {ts : TSet} {Qs : L2.St → Hp → Prop} (h : to σ H fun o H1 => ti σ H1 fun i H2 => ts o i v H2 fun H3 => Qs σ H3) : gSub to ti ts v σ H Qs := h
theorem a_bm {T : String} {f : V → List V → Hp → VK → Prop} {to : TE} (h : to σ H fun x H1 => tyV K T x H1 ∧ tr σ H1 fun xs H2 => f x xs H2 Q) : tBM K T f to tr σ H Q := h
theorem a_bm0 {T : String} {f : V → List V → Hp → VK → Prop} {to : TE} (h : to σ H fun x H1 => tyV K T x H1 ∧ f x [] H1 Q) : tBM0 K T f to σ H Q := h
theorem a_par {a b : Nat} (h : tr σ H fun vs H1 => ∃ v w, vs = [v, w] ∧ D.nx ((σ.set a (some v)).set b (some w)) H1) : tPar a b tr D σ H := h
theorem a_par2 {A : V → V → Prop} (h : A x y) : ∃ v w, [x, y] = [v, w] ∧ A v w := ⟨x, y, rfl, h⟩
theorem a_for {wi : TI} (h : wi σ H fun J H1 => ∃ W : Nat → Nat → L2.St → Hp → Prop, (∃ m, W 0 m σ H1) ∧ ∀ i m σ H, W i m σ H →
  (J.stop i H ∧ D.nx σ H) ∨ (J.go i H ∧ ∃ N : L2.St → Hp → Prop, (∀ σ' H', N σ' H' → ∃ m', m' < m ∧ W (i + 1) m' σ' H') ∧ ∀ x H', J.yld i H x H' → g x σ H' fun σ2 H2 => t { D with nx := N, ct := N, bk := D.nx } σ2 H2)) : tFor wi g t D σ H := h
theorem a_rng1 {RR : It → Hp → Prop} (h : tr σ H fun vs H1 => ∃ j : Int, vs = [.int j] ∧ -(2 ^ 62) ≤ j ∧ j < 2 ^ 62 ∧ RR (Itr 0 j.toNat) H1) : iRng1 tr σ H RR := h
theorem a_rng1' {j : Int} {A : Int → Prop} (h1 : -(2 ^ 62) ≤ j) (h2 : j < 2 ^ 62) (h : A j) : ∃ k : Int, [V.int j] = [.int k] ∧ -(2 ^ 62) ≤ k ∧ k < 2 ^ 62 ∧ A k := ⟨j, rfl, h1, h2, h⟩
theorem a_rng2 {RR : It → Hp → Prop} (h : tr σ H fun vs H1 => ∃ i j : Int, vs = [.int i, .int j] ∧ (-(2 ^ 62) ≤ i ∧ i < 2 ^ 62 ∧ -(2 ^ 62) ≤ j ∧ j < 2 ^ 62) ∧ RR (Itr i (j - i).toNat) H1) : iRng2 tr σ H RR := h
theorem a_rng2' {i j : Int} {A : Int → Int → Prop} (h1 : -(2 ^ 62) ≤ i ∧ i < 2 ^ 62 ∧ -(2 ^ 62) ≤ j ∧ j < 2 ^ 62) (h : A i j) : ∃ a b : Int, [V.int i, V.int j] = [.int a, .int b] ∧ (-(2 ^ 62) ≤ a ∧ a < 2 ^ 62 ∧ -(2 ^ 62) ≤ b ∧ b < 2 ^ 62) ∧ A a b := ⟨i, j, rfl, h1, h⟩
theorem a_lc {wi : TI} {tt : TT} {vs : List Nat} (h : wi σ H fun J H1 => ∀ D, H1 D = none → ∃ W : Nat → Nat → Hp → Prop, (∃ m, W 0 m (upd H1 D (.lst []))) ∧ ∀ i m H, W i m H →
  (J.stop i H ∧ Q (.ref D) H) ∨ (J.go i H ∧ ∃ Nx : Hp → Prop, (∀ H', Nx H' → ∃ m', m' < m ∧ W (i + 1) m' H') ∧ ∀ x H', J.yld i H x H' → g x (wipe σ vs) H' fun σ2 H2 => wipe σ2 vs = wipe σ vs ∧ tt σ2 H2 fun b H3 =>
    if b = true then te σ2 H3 fun y H4 => ∃ acc, H4 D = some (.lst acc) ∧ acc.length < sizeLine ∧ Nx (upd H4 D (.lst (acc ++ [y]))) else Nx H3)) : tLc wi g tt te vs σ H Q := h
theorem a_gtup {n : Nat} {gs : TGs} {p : Addr} {xs : List V} {Qs : L2.St → Hp → Prop} (hs : SqT K H p xs) (hl : xs.length = n) (h : gs xs σ H Qs) : gTup K n gs (.ref p) σ H Qs := ⟨p, xs, rfl, hs, hl, h⟩
theorem a_gcons {gs : TGs} {vs : List V} {Qs : L2.St → Hp → Prop} (h : g v σ H fun σ' H' => gs vs σ' H' Qs) : gCons g gs (v :: vs) σ H Qs := ⟨v, vs, rfl, h⟩
theorem a_gnil {Qs : L2.St → Hp → Prop} (h : Qs σ H) : gNil [] σ H Qs := ⟨rfl, h⟩
theorem a_yes (h : QB true H) : tYes σ H QB := h
-- by values
theorem a_I0 {f : Int → Int → V} {m n : Int} (h : Q (f m n) H) : rI0 f (.int m) (.int n) H Q := ⟨m, n, rfl, rfl, h⟩
theorem a_I {C : Int → Int → Prop} {f : Int → Int → V} {m n : Int} (hc : C m n) (h : Q (f m n) H) : rI C f (.int m) (.int n) H Q := ⟨m, n, rfl, rfl, hc, h⟩
theorem a_eqI {m n : Int} (h : Q (.bl (decide (m = n))) H) : rEq (.int m) (.int n) H Q := ⟨rfl, by
  have e : decide (V.int m = V.int n) = decide (m = n) := by rw [dec_int, Bool.beq_eq_decide_eq]
  rw [e]; exact h⟩
theorem a_neI {m n : Int} (h : Q (.bl (!decide (m = n))) H) : rNe (.int m) (.int n) H Q := ⟨rfl, by
  have e : decide (V.int m = V.int n) = decide (m = n) := by rw [dec_int, Bool.beq_eq_decide_eq]
  rw [e]; exact h⟩
theorem a_isN1 (h : Q (.bl true) H) : rIsN .non .non H Q := ⟨rfl, h⟩
theorem a_isN0 (hx : x ≠ .non) (h : Q (.bl false) H) : rIsN x .non H Q := ⟨rfl, by rw [decide_eq_false hx]; exact h⟩
theorem a_notN1 (h : Q (.bl false) H) : rNotN .non .non H Q := ⟨rfl, h⟩
theorem a_notN0 (hx : x ≠ .non) (h : Q (.bl true) H) : rNotN x .non H Q := ⟨rfl, by rw [decide_eq_false hx]; exact h⟩
theorem a_ixL {p : Addr} {xs : List V} {n : Int} (hs : SqL K H p xs) (ha : atI xs n = some v) (h : Q v H) : rIxL K (.ref p) (.int n) H Q := ⟨p, xs, n, v, rfl, rfl, hs, ha, h⟩
theorem a_ixT {p : Addr} {xs : List V} {n : Int} (hs : SqT K H p xs) (ha : atI xs n = some v) (h : Q v H) : rIxT K (.ref p) (.int n) H Q := ⟨p, xs, n, v, rfl, rfl, hs, ha, h⟩
theorem a_setL {B : Hp} {Lw : List (Addr × HO)} {p : Addr} {xs : List V} {n : Int} {j : Nat} {Qh : Hp → Prop} (O : Own B Lw H) (i : Nat) (h : Lw[i]? = some (p, .lst xs)) (hj : ixN xs.length n = some j)
    (q : ∀ H', Own B (Lw.set i (p, .lst (xs.set j v))) H' → Qh H') : rSetL (.ref p) (.int n) v H Qh := ⟨p, xs, n, j, rfl, rfl, O.get i h, hj, q _ (O.put i h)⟩
theorem a_app {B : Hp} {Lw : List (Addr × HO)} {p : Addr} {xs : List V} (O : Own B Lw H) (i : Nat) (h : Lw[i]? = some (p, .lst xs)) (hl : xs.length ≤ 1000000)
    (q : ∀ H', Own B (Lw.set i (p, .lst (xs ++ [y]))) H' → Q .non H') : rAppend (.ref p) [y] H Q := ⟨p, xs, y, rfl, rfl, O.get i h, Nat.lt_of_le_of_lt hl (by decide), q _ (O.put i h)⟩
theorem a_mkL {B : Hp} {Lw : List (Addr × HO)} {xs : List V} (O : Own B Lw H) (hl : xs.length ≤ 1000000) (q : ∀ p H', H p = none → Own B ((p, .lst xs) :: Lw) H' → Q (.ref p) H') : NewL xs H Q :=
  ⟨Nat.le_trans hl (by decide), fun p hp => q p _ hp (O.new hp)⟩
theorem a_mkT {B : Hp} {Lw : List (Addr × HO)} {xs : List V} (O : Own B Lw H) (hl : xs.length ≤ 1000000) (q : ∀ p H', H p = none → Own B ((p, .tup xs) :: Lw) H' → Q (.ref p) H') : NewT xs H Q :=
  ⟨Nat.le_trans hl (by decide), fun p hp => q p _ hp (O.new hp)⟩
theorem a_int1 {n : Int} {A : Int → Prop} {C : Prop} (h : A n) : (∃ i, [V.int n] = [V.int i] ∧ A i) ∨ C := .inl ⟨n, rfl, h⟩
theorem a_len {q : Addr} {ys : List V} (hs : SqL K H q ys ∨ SqT K H q ys) (h : Q (.int ys.length) H) : rLen K [V.ref q] H Q := ⟨q, ys, rfl, hs, h⟩
theorem a_sum {a : Addr} {ns : List Int} (hs : SqL K H a (ns.map V.int)) (h : Q (.int ns.sum) H) : rSum K [V.ref a] H Q := ⟨a, ns, rfl, hs, h⟩
theorem a_tupL {B : Hp} {Lw : List (Addr × HO)} {a : Addr} {xs : List V} (O : Own B Lw H) (hs : SqL K H a xs) (h : ∀ p H', H p = none → Own B ((p, .tup xs) :: Lw) H' → Q (.ref p) H') : rTupOf K [V.ref a] H Q := ⟨a, xs, rfl, .inl ⟨hs, fun l hl => h l _ hl (O.new hl)⟩⟩
theorem a_tupT {a : Addr} {xs : List V} (hs : SqT K H a xs) (h : Q (.ref a) H) : rTupOf K [V.ref a] H Q := ⟨a, xs, rfl, .inr ⟨hs, h⟩⟩
theorem a_lstO {B : Hp} {Lw : List (Addr × HO)} {a : Addr} {xs : List V} (O : Own B Lw H) (hs : SqL K H a xs ∨ SqT K H a xs) (h : ∀ p H', H p = none → Own B ((p, .lst xs) :: Lw) H' → Q (.ref p) H') : rLstOf K [V.ref a] H Q := ⟨a, xs, rfl, hs, fun l hl => h l _ hl (O.new hl)⟩
theorem a_pow {m n : Int} {k : Nat} (hn : n = (k : Int)) (hk : k ≤ 1000000) (hm : m.natAbs < 2 ^ 64) (h : Q (.int (m ^ k)) H) : rI CPow (fun i j => .int (i ^ j.toNat)) (.int m) (.int n) H Q := by
  subst hn
  exact ⟨m, k, rfl, rfl, ⟨by omega, by omega, hm⟩, h⟩
theorem a_abs {n : Int} (h : Q (.int (n.natAbs : Int)) H) : rAbs [V.int n] H Q := ⟨n, rfl, by
  have e : (if n < 0 then -n else n) = (n.natAbs : Int) := by split <;> omega
  rw [e]; exact h⟩
-- tests
theorem a_tt {A B : Prop} (h : A) : if true = true then A else B := by rw [if_pos rfl]; exact h
theorem a_ff {A B : Prop} (h : B) : if false = true then A else B := by rw [if_neg Bool.false_ne_true]; exact h
theorem a_nt {A B : Prop} (h : B) : if (!true) = true then A else B := a_ff h
theorem a_nf {A B : Prop} (h : A) : if (!false) = true then A else B := a_tt h
theorem a_itT {p A B : Prop} [Decidable p] (hp : p) (h : A) : if decide p = true then A else B := by rw [if_pos (decide_eq_true hp)]; exact h
theorem a_itF {p A B : Prop} [Decidable p] (hp : ¬ p) (h : B) : if decide p = true then A else B := by rw [if_neg (by rw [decide_eq_false hp]; decide)]; exact h
theorem a_it2 {p A B : Prop} [Decidable p] (h1 : p → A) (h2 : ¬ p → B) : if decide p = true then A else B := by
  by_cases hp : p
  · exact a_itT hp (h1 hp)
  · exact a_itF hp (h2 hp)
theorem a_niT {p A B : Prop} [Decidable p] (hp : p) (h : B) : if (!decide p) = true then A else B := by rw [decide_eq_true hp]; exact a_nt h
theorem a_niF {p A B : Prop} [Decidable p] (hp : ¬ p) (h : A) : if (!decide p) = true then A else B := by rw [decide_eq_false hp]; exact a_nf h
theorem a_ni2 {p A B : Prop} [Decidable p] (h1 : p → B) (h2 : ¬ p → A) : if (!decide p) = true then A else B := by
  by_cases hp : p
  · exact a_niT hp (h1 hp)
  · exact a_niF hp (h2 hp)
theorem a_itB {b : Bool} {A B : Prop} (h1 : b = true → A) (h2 : b = false → B) : if b = true then A else B := by
  cases b with
  | true => exact a_tt (h1 rfl)
  | false => exact a_ff (h2 rfl)
theorem a_niB {b : Bool} {A B : Prop} (h1 : b = true → B) (h2 : b = false → A) : if (!b) = true then A else B := by
  cases b with
  | true => exact a_nt (h1 rfl)
  | false => exact a_nf (h2 rfl)
theorem a_cT {p q A B : Prop} [Decidable p] [Decidable q] (hp : p) (hq : q) (h : A) : if (decide p && decide q) = true then A else B := by rw [decide_eq_true hp, decide_eq_true hq]; exact a_tt h
theorem a_cF {p q A B : Prop} [Decidable p] [Decidable q] (hp : ¬ (p ∧ q)) (h : B) : if (decide p && decide q) = true then A else B := by
  by_cases h1 : p
  · rw [decide_eq_true h1, decide_eq_false (fun z => hp ⟨h1, z⟩)]; exact a_ff h
  · rw [decide_eq_false h1]; exact a_ff h
theorem a_ncT {p q A B : Prop} [Decidable p] [Decidable q] (hp : p) (hq : q) (h : B) : if (!(decide p && decide q)) = true then A else B := by rw [decide_eq_true hp, decide_eq_true hq]; exact a_nt h
theorem a_isiI {i : Int} (h : Q (.bl true) H) : rIsi K [.int i, .ty "int"] H Q := ⟨_, _, .type "int", .type "int", true, rfl, .ty _, .base (.int i), kit_ty (by decide +kernel), h⟩
theorem a_isiB {i : Int} (h : Q (.bl false) H) : rIsi K [.int i, .ty "bool"] H Q := ⟨_, _, .type "int", .type "bool", false, rfl, .ty _, .base (.int i), kit_ty (by decide +kernel), h⟩
end
theorem divW {m n : Int} (h : 0 < n) (h' : n < 10 ^ 60) : CDivW m n := wide_div (b := 200) h (by
  have q : (10 : Int) ^ 60 < 2 ^ 200 := by decide
  have r : n < 2 ^ 200 := Int.lt_trans h' q
  omega) (by decide) (by decide)
theorem at0 {α : Type} {xs : List α} {n : Int} {j : Nat} {v : α} (e : n = (j : Int)) (h : xs[j]? = some v) : atI xs n = some v := by
  rw [e]; exact atI_nat h
end R
namespace R
open PySem PySem.Spec PyProof.Rows L2
theorem mx_w {i j : Int} (a b : Nat) (ha : i.natAbs < 2 ^ a) (hb : j.natAbs < 2 ^ b) (h0 : 0 < a := by decide) (h1 : 0 < b := by decide) (h : a + b ≤ 1000000 := by decide) : IntMulOk i j := (wide_mul ha hb h0 h1 h).ok
end R
namespace R
open PySem PySem.Spec PyProof.Rows L2
open PySem.W (Frag)
section
variable {K : Frag} {B H : Hp} {Lw : List (Addr × HO)} {p : Addr} {z : Int} {Q : VK}
/-- an item of a written list at a drawn place -/
theorem a_ixV {xs : List V} (O : Own B Lw H) (i : Nat) (h : Lw[i]? = some (p, .lst xs)) (h0 : 0 ≤ z) (h1 : z < xs.length) (q : ∀ v, v ∈ xs → Q v H) : rIxL K (.ref p) (.int z) H Q := by
  have e : z.toNat < xs.length := by omega
  exact a_ixL (O.sq i h) (at0 (j := z.toNat) (by omega) (List.getElem?_eq_getElem e)) (q _ (List.getElem_mem e))
theorem a_ixM {ms : List Int} (O : Own B Lw H) (i : Nat) (h : Lw[i]? = some (p, .lst (ms.map V.int))) (h0 : 0 ≤ z) (h1 : z < ms.length) (q : ∀ m, m ∈ ms → Q (.int m) H) : rIxL K (.ref p) (.int z) H Q :=
  a_ixV O i h h0 (by rw [List.length_map]; exact h1) fun v hv => by
    obtain ⟨m, hm, rfl⟩ := List.mem_map.mp hv
    exact q m hm
end
end R
namespace R
open PySem PySem.Spec PyProof.Rows L2
open PySem.W (Frag)
section
variable {K : Frag} {B H : Hp} {Lw : List (Addr × HO)} {p : Addr} {z : Int} {Q : VK}
/-- an item of a list of ints -/
theorem a_ixI {ms : List Int} (O : Own B Lw H) (i : Nat) (h : Lw[i]? = some (p, .lst (ms.map V.int))) (h0 : 0 ≤ z) (h1 : z.toNat < ms.length) (q : Q (.int (ms[z.toNat])) H) : rIxL K (.ref p) (.int z) H Q :=
  a_ixL (O.sq i h) (at0 (j := z.toNat) (by omega) (by rw [List.getElem?_map, List.getElem?_eq_getElem h1]; rfl)) q
end
end R
namespace R
open PySem PySem.Spec PyProof.Rows L2
/-- an if whose test comes out one way on all ways -/
theorem a_ifNo {c : TT} {t u : TS} {D : Ends} {σ : L2.St} {H : Hp} (hc : ∀ QB : Bool → Hp → Prop, QB false H → c σ H QB) (h : u D σ H) : tIfS c t u D σ H := hc _ (a_ff h)
theorem a_ifYes {c : TT} {t u : TS} {D : Ends} {σ : L2.St} {H : Hp} (hc : ∀ QB : Bool → Hp → Prop, QB true H → c σ H QB) (h : t D σ H) : tIfS c t u D σ H := hc _ (a_tt h)
theorem a_ifNoH {c : TT} {t u : TS} {D : Ends} {σ : L2.St} {H : Hp} (P : Hp → Prop) (hc : ∀ QB : Bool → Hp → Prop, (∀ H', P H' → QB false H') → c σ H QB) (h : ∀ H', P H' → u D σ H') : tIfS c t u D σ H := hc _ fun H' p => a_ff (h H' p)
end R
namespace R
open PySem PySem.Spec PyProof.Rows L2
theorem q_F {p : Prop} [Decidable p] {QB : Bool → Hp → Prop} {H : Hp} (hq : QB false H) (hp : ¬ p) : QB (decide p) H := by rw [decide_eq_false hp]; exact hq
theorem q_T {p : Prop} [Decidable p] {QB : Bool → Hp → Prop} {H : Hp} (hq : QB true H) (hp : p) : QB (decide p) H := by rw [decide_eq_true hp]; exact hq
theorem q_nT {p : Prop} [Decidable p] {QB : Bool → Hp → Prop} {H : Hp} (hq : QB false H) (hp : p) : QB (!decide p) H := by rw [decide_eq_true hp]; exact hq
theorem q_nF {p : Prop} [Decidable p] {QB : Bool → Hp → Prop} {H : Hp} (hq : QB true H) (hp : ¬ p) : QB (!decide p) H := by rw [decide_eq_false hp]; exact hq
end R
namespace R
open PySem PySem.Spec PyProof.Rows L2
/-- while: W by a measure -/
theorem a_while {c : TT} {tb : TS} {D : Ends} {σ : L2.St} {H : Hp} (W : Nat → L2.St → Hp → Prop) (h0 : ∃ m, W m σ H)
    (hs : ∀ m σ H, W m σ H → c σ H fun b H1 => if b = true then (∃ N : L2.St → Hp → Prop, (∀ σ' H', N σ' H' → ∃ m', m' < m ∧ W m' σ' H') ∧ tb { D with nx := N, ct := N, bk := D.nx } σ H1) else D.nx σ H1) : tWhile c tb D σ H := ⟨W, h0, hs⟩
theorem a_turn {tb : TS} {D : Ends} {σ : L2.St} {H1 : Hp} {m : Nat} {W : Nat → L2.St → Hp → Prop} (h : tb { D with nx := fun σ' H' => ∃ m', m' < m ∧ W m' σ' H', ct := fun σ' H' => ∃ m', m' < m ∧ W m' σ' H', bk := D.nx } σ H1) :
    ∃ N : L2.St → Hp → Prop, (∀ σ' H', N σ' H' → ∃ m', m' < m ∧ W m' σ' H') ∧ tb { D with nx := N, ct := N, bk := D.nx } σ H1 := ⟨_, fun _ _ h => h, h⟩
end R
namespace R
open PySem PySem.Spec PyProof.Rows L2
open PySem.W (Frag)
section
variable {K : Frag} {tr : TA} {tl : TE} {σ : L2.St} {H : Hp} {RR : It → Hp → Prop}
theorem a_enum {tr : TA} (h : tr σ H fun vs H1 => ∃ a xs, vs = [.ref a] ∧ SqL K H1 a xs ∧ RR (Ite K a) H1) : iEnum K tr σ H RR := h
theorem a_iL (h : tl σ H fun x H1 => ∃ a, x = .ref a ∧ (∃ xs, SqL K H1 a xs) ∧ RR (Itl K a) H1) : iList K tl σ H RR := h
theorem a_iT (h : tl σ H fun x H1 => ∃ a, x = .ref a ∧ (∃ xs, SqT K H1 a xs) ∧ RR (Itt K a) H1) : iTup K tl σ H RR := h
end
end R
namespace R
open PySem PySem.Spec PyProof.Rows L2
open PySem.W (Frag)
section
variable {K : Frag} {te : TE} {σ : L2.St} {H B : Hp} {Q : VK} {Lw : List (Addr × HO)} {a : Addr} {xs : List V}
def rRev (K : Frag) : V → Hp → VK → Prop := fun x H Q => ∃ a xs, x = .ref a ∧ SqL K H a xs ∧ ∀ p, H p = none → Q (.ref p) (upd H p (.lst xs.reverse))
theorem a_rev (h : te σ H fun x H1 => rRev K x H1 Q) : tRevL K te σ H Q := h
theorem a_revL (O : Own B Lw H) (hs : SqL K H a xs) (q : ∀ p H', H p = none → Own B ((p, .lst xs.reverse) :: Lw) H' → Q (.ref p) H') : rRev K (.ref a) H Q := ⟨a, xs, rfl, hs, fun p hp => q p _ hp (O.new hp)⟩
end
end R
namespace R
open PySem PySem.Spec PyProof.Rows L2
open PySem.W (Frag)
/-! ### within a comprehension: the frag named -/
theorem pe_fldK {X : Cx} {K : Frag} {e : Expr} {f : Str} {pos : Pos} {ta : TE} (he : PE X e ta) (hb : attributeBase e f X.env (eval e X.env) = eval e X.env) (hK : X.K = K := by rfl) : PE X (.Attribute e f pos) (tFld K ta f) := by
  subst hK; exact pe_fld he hb
theorem pg_tupK {X : Cx} {K : Frag} {pos : Pos} {es : List Expr} {k : Nat} {t : TGs} {n : Nat} (hc : X.calm = true) (h : PGs X es t) (hK : X.K = K := by rfl) (hn : (assignEach es X.env).length = n := by rfl) (hst : (assignEach es X.env).findIdx? (·.1) = none := by rfl) : PG X (.Tuple es k pos) (gTup K n t) := by
  subst hK; exact pg_tup hc h hn hst
end R

namespace R
/-! ## the first one of a row -/
theorem find_more {α : Type} {g : Nat → Option α} {i : Nat} (h : (List.range i).findSome? g = none) (e : g i = none) : (List.range (i + 1)).findSome? g = none := by
  rw [List.range_succ, List.findSome?_append, h]
  simp [e]
theorem find_hit {α : Type} {g : Nat → Option α} {i : Nat} {x : α} (h : (List.range i).findSome? g = none) (e : g i = some x) : ∀ n : Nat, i < n → (List.range n).findSome? g = some x := by
  intro n
  induction n with
  | zero => intro z; omega
  | succ n ih =>
    intro z
    rw [List.range_succ, List.findSome?_append]
    by_cases q : i = n
    · rw [← q, h]; simp [e]
    · rw [ih (by omega)]; rfl
theorem pow_bits {b : Int} {n m : Nat} (h0 : 0 ≤ b) (h1 : b ≤ 16) (hn : n ≤ m) : (b ^ n).natAbs < 2 ^ (4 * m + 1) := by
  rw [Int.natAbs_pow]
  have e1 : b.natAbs ≤ 16 := by omega
  have e2 : b.natAbs ^ n ≤ 16 ^ n := Nat.pow_le_pow_left e1 n
  have e3 : (16 : Nat) ^ n = 2 ^ (4 * n) := by rw [Nat.pow_mul]
  have e4 : (2 : Nat) ^ (4 * n) ≤ 2 ^ (4 * m) := Nat.pow_le_pow_right (by decide) (by omega)
  have e5 : (2 : Nat) ^ (4 * m + 1) = 2 ^ (4 * m) * 2 := Nat.pow_succ ..
  have e6 : 0 < (2 : Nat) ^ (4 * m) := Nat.pow_pos (by decide)
  omega
end R
namespace R
theorem find_ext {α : Type} {g : Nat → Option α} {n : Nat} : ∀ m : Nat, n ≤ m → (∀ i, n ≤ i → i < m → g i = none) → (List.range m).findSome? g = (List.range n).findSome? g := by
  intro m
  induction m with
  | zero => intro h _; rw [Nat.le_zero.mp h]
  | succ m ih =>
    intro h k
    by_cases e : n = m + 1
    · rw [e]
    · rw [List.range_succ, List.findSome?_append, ih (by omega) fun i h1 h2 => k i h1 (by omega)]
      simp [k m (by omega) (by omega)]
theorem find_same {α : Type} {g g' : Nat → Option α} : ∀ n : Nat, (∀ i, i < n → g i = g' i) → (List.range n).findSome? g = (List.range n).findSome? g' := by
  intro n
  induction n with
  | zero => intro _; rfl
  | succ n ih =>
    intro k
    rw [List.range_succ, List.findSome?_append, List.findSome?_append, ih fun i h => k i (by omega)]
    simp [k n (by omega)]
/-- the first hit: all of the rows ahead of i, and j of row i -/
def fst2 (h : Nat → Nat → Option Int) (B i j : Nat) : Option (Nat × Int) :=
  ((List.range i).findSome? fun p => ((List.range B).findSome? (h p)).map fun x => (p, x)).or (((List.range j).findSome? (h i)).map fun x => (i, x))
theorem fst2_yes {h : Nat → Nat → Option Int} {B i j : Nat} {x : Int} (e : h i j = some x) : fst2 h B i (j + 1) = (fst2 h B i j).or (some (i, x)) := by
  unfold fst2
  rw [List.range_succ, List.findSome?_append]
  cases (List.range i).findSome? fun p => ((List.range B).findSome? (h p)).map fun x => (p, x) <;> cases (List.range j).findSome? (h i) <;> simp [e]
theorem fst2_no {h : Nat → Nat → Option Int} {B i j : Nat} (e : h i j = none) : fst2 h B i (j + 1) = fst2 h B i j := by
  unfold fst2
  rw [List.range_succ, List.findSome?_append]
  cases (List.range j).findSome? (h i) <;> simp [e]
theorem fst2_row {h : Nat → Nat → Option Int} {B i : Nat} : fst2 h B (i + 1) 0 = fst2 h B i B := by
  unfold fst2
  rw [List.range_succ, List.findSome?_append]
  simp
theorem fst2_all {h : Nat → Nat → Option Int} {B i : Nat} : fst2 h B i 0 = (List.range i).findSome? fun p => ((List.range B).findSome? (h p)).map fun x => (p, x) := by
  unfold fst2
  simp
theorem head_snoc {α : Type} (ps : List α) (x : α) : (ps ++ [x]).head? = ps.head?.or (some x) := by
  cases ps <;> rfl
end R

namespace R
open PySem PySem.Spec PyProof.Rows L2
open PySem.W (Frag)
/-! ## lists and tuples as data -/
theorem canAll_map {α : Type} {f : α → PyData} (h : ∀ a, (f a).canLay0 = true) : ∀ l : List α, PyData.canLayAll0 (l.map f) = true
  | [] => rfl
  | a :: l => by
    show ((f a).canLay0 && PyData.canLayAll0 (l.map f)) = true
    rw [h a, canAll_map h l]; rfl
theorem depthAll_map {α : Type} {f : α → PyData} {n : Nat} (h : ∀ a, (f a).depth ≤ n) : ∀ l : List α, PyData.depthAll (l.map f) ≤ n
  | [] => Nat.zero_le _
  | a :: l => by
    have h1 := h a
    have h2 := depthAll_map h l
    show max (f a).depth (PyData.depthAll (l.map f)) ≤ n
    omega
theorem dpAll_map {α : Type} {K : Frag} {H : Hp} {g : α → V} {f : α → PyData} (h : ∀ a, Dp K H (g a) (f a)) : ∀ l : List α, DpAll K H (l.map g) (l.map f)
  | [] => .nil
  | a :: l => .cons (h a) (dpAll_map h l)
theorem shaped_of {d : PyData} (h1 : d.canLay0 = true) (h2 : d.depth ≤ 64) : SeqAt.shaped d = true := by
  unfold SeqAt.shaped
  rw [h1, decide_eq_true h2]; rfl
/-- a list of ints -/
def pyL (ns : List Int) : PyData := .list (ns.map .int)
def pyT (ns : List Int) : PyData := .tuple (ns.map .int)
theorem can_pyL (ns : List Int) : (pyL ns).canLay0 = true := canAll_map (fun _ => rfl) ns
theorem can_pyT (ns : List Int) : (pyT ns).canLay0 = true := canAll_map (fun _ => rfl) ns
theorem dep_pyL (ns : List Int) : (pyL ns).depth ≤ 1 := by
  have h := depthAll_map (f := PyData.int) (n := 0) (fun _ => Nat.le_refl 0) ns
  show PyData.depthAll (ns.map .int) + 1 ≤ 1
  omega
theorem dep_pyT (ns : List Int) : (pyT ns).depth ≤ 1 := by
  have h := depthAll_map (f := PyData.int) (n := 0) (fun _ => Nat.le_refl 0) ns
  show PyData.depthAll (ns.map .int) + 1 ≤ 1
  omega
section
variable {K : Frag} {H : Hp} {x y : V} {Q : VK} {d : PyData} {a b : Addr} {ns : List Int}
theorem dp_pyL (h : SqL K H a (ns.map V.int)) : Dp K H (.ref a) (pyL ns) := .lst h (dpAll_map (fun i => .int i) ns)
theorem dp_pyT (h : SqT K H a (ns.map V.int)) : Dp K H (.ref a) (pyT ns) := .tup h (dpAll_map (fun i => .int i) ns)
theorem a_eqD (hx : Dp K H x d) (hy : Dp K H y d) (h1 : d.canLay0 = true) (h2 : d.depth ≤ 64) (h : Q (.bl true) H) : rEqD K x y H Q :=
  ⟨d, d, hx, hy, shaped_of h1 h2, shaped_of h1 h2, by rw [SeqAt.eqv_refl d h1]; exact h⟩
theorem a_neD (hx : Dp K H x d) (hy : Dp K H y d) (h1 : d.canLay0 = true) (h2 : d.depth ≤ 64) (h : Q (.bl false) H) : rNeD K x y H Q :=
  ⟨d, d, hx, hy, shaped_of h1 h2, shaped_of h1 h2, by rw [SeqAt.eqv_refl d h1]; exact h⟩
theorem a_eqL (hx : SqL K H a (ns.map V.int)) (hy : SqL K H b (ns.map V.int)) (h : Q (.bl true) H) : rEqD K (.ref a) (.ref b) H Q := a_eqD (dp_pyL hx) (dp_pyL hy) (can_pyL ns) (Nat.le_trans (dep_pyL ns) (by decide)) h
theorem a_neL (hx : SqL K H a (ns.map V.int)) (hy : SqL K H b (ns.map V.int)) (h : Q (.bl false) H) : rNeD K (.ref a) (.ref b) H Q := a_neD (dp_pyL hx) (dp_pyL hy) (can_pyL ns) (Nat.le_trans (dep_pyL ns) (by decide)) h
theorem a_eqT (hx : SqT K H a (ns.map V.int)) (hy : SqT K H b (ns.map V.int)) (h : Q (.bl true) H) : rEqD K (.ref a) (.ref b) H Q := a_eqD (dp_pyT hx) (dp_pyT hy) (can_pyT ns) (Nat.le_trans (dep_pyT ns) (by decide)) h
theorem a_neT (hx : SqT K H a (ns.map V.int)) (hy : SqT K H b (ns.map V.int)) (h : Q (.bl false) H) : rNeD K (.ref a) (.ref b) H Q := a_neD (dp_pyT hx) (dp_pyT hy) (can_pyT ns) (Nat.le_trans (dep_pyT ns) (by decide)) h
end
end R
namespace R
open PySem PySem.Spec PyProof.Rows L2
open PySem.W (Frag)
theorem dpAll_snoc {K : Frag} {H : Hp} {v : V} {d : PyData} (h : Dp K H v d) : ∀ {vs : List V} {ds : List PyData}, DpAll K H vs ds → DpAll K H (vs ++ [v]) (ds ++ [d])
  | _, _, .nil => .cons h .nil
  | _, _, .cons h1 h2 => .cons h1 (dpAll_snoc h h2)
theorem dpAll_len {K : Frag} {H : Hp} : ∀ {vs : List V} {ds : List PyData}, DpAll K H vs ds → vs.length = ds.length
  | _, _, .nil => rfl
  | _, _, .cons _ h2 => by rw [List.length_cons, List.length_cons, dpAll_len h2]
/-- a pair of ints -/
def pyP (p : Nat × Int) : PyData := .tuple [.int p.1, .int p.2]
theorem can_pyP (p : Nat × Int) : (pyP p).canLay0 = true := rfl
theorem dep_pyP (p : Nat × Int) : (pyP p).depth ≤ 1 := Nat.le_refl 1
theorem dp_pyP {K : Frag} {H : Hp} {a : Addr} {p : Nat × Int} (h : SqT K H a [.int p.1, .int p.2]) : Dp K H (.ref a) (pyP p) := .tup h (.cons (.int _) (.cons (.int _) .nil))
/-- != by data that is not the same -/
theorem a_neD' {K : Frag} {H : Hp} {x y : V} {Q : VK} {d e : PyData} (hx : Dp K H x d) (hy : Dp K H y e) (h1 : d.canLay0 = true) (h2 : d.depth ≤ 64) (h3 : e.canLay0 = true) (h4 : e.depth ≤ 64) (n : PyData.eqv d e = false) (h : Q (.bl true) H) : rNeD K x y H Q :=
  ⟨d, e, hx, hy, shaped_of h1 h2, shaped_of h3 h4, by rw [n]; exact h⟩
theorem a_eqD' {K : Frag} {H : Hp} {x y : V} {Q : VK} {d e : PyData} (hx : Dp K H x d) (hy : Dp K H y e) (h1 : d.canLay0 = true) (h2 : d.depth ≤ 64) (h3 : e.canLay0 = true) (h4 : e.depth ≤ 64) (n : PyData.eqv d e = false) (h : Q (.bl false) H) : rEqD K x y H Q :=
  ⟨d, e, hx, hy, shaped_of h1 h2, shaped_of h3 h4, by rw [n]; exact h⟩
end R

/-! ## enumerate(a tuple) -/
namespace PySem
namespace EnT
open PySem.W PySem.Calls PyProof.Rows
set_option maxHeartbeats 4000000
theorem meets_new1 {src : Value} {itO : Obj} {Hx : Heap → Prop} (B : Begins src itO Hx) :
    Meets (Builtin.«enumerate.__new__» ⟨[.type "enumerate", src], []⟩) (fun _ R s => Hx s.heap ∧
      R (.ok (.ret (.ref (s.heap.push itO).objs.size))) { s with heap := (s.heap.push itO).push { cls := .type "enumerate", data := .fields #[.none, .bool false, .ref s.heap.objs.size, rawInt 0, .none, .none] } }) := by
  refine .of_wp fun prog w A R s h => ?_
  obtain ⟨hp0, gn, dr, tks, osx⟩ := s
  obtain ⟨hH, hR⟩ := h
  have hsub := sub_enumerate
  have stp : ∀ {A' : Around} {E : Value → Shared → Prop} {Q : Value → Shared → Prop}, Q (.ref hp0.objs.size) ⟨hp0.push itO, gn, dr, tks, osx⟩ →
      wpAny (model prog w) A' (pyIter src) Q E ⟨hp0, gn, dr, tks, osx⟩ := fun q => B.iter prog w _ _ ⟨hp0, gn, dr, tks, osx⟩ _ hH q
  wp_walk using stp
  refine wpAny_stack_any fun st => wpAny_pure ?_
  split
  · rename_i c _ _ _ _ _
    cases (c == Value.type "enumerate") <;> (wp_walk using stp; exact ⟨_, rfl, hR⟩)
  · wp_walk using stp
    exact ⟨_, rfl, hR⟩
theorem call_new1 {prog : Program} {w : World} {A : Around} {E : Value → Shared → Prop} {s : Shared} {src : Value} {itO : Obj} {Hx : Heap → Prop} {Q : Value → Shared → Prop} (B : Begins src itO Hx) (hH : Hx s.heap)
    (h : ∀ h', IsEnum h' (s.heap.objs.size + 1) s.heap.objs.size 0 .none → h'.get? s.heap.objs.size = some itO → h'.objs.size = s.heap.objs.size + 2 →
      (∀ b o, s.heap.get? b = some o → h'.get? b = some o) → Q (.ref (s.heap.objs.size + 1)) { s with heap := h' }) :
    wpAny (model prog w) A (call (.type "enumerate") [src]) Q E s := by
  have z : (s.heap.push itO).objs.size = s.heap.objs.size + 1 := Heap.size_push ..
  refine callType_new F.called_enumerate (by decide) (F.typeCall_enumerate_1 _) (F.newCall_enumerate_1 _) (fun obj => F.args_object_init_2 obj _) F.entry_enumerate_new (meets_new1 B) ⟨hH, ?_⟩
  show _ ∧ _
  rw [z]
  have en : IsEnum ((s.heap.push itO).push { cls := .type "enumerate", data := .fields #[.none, .bool false, .ref s.heap.objs.size, rawInt 0, .none, .none] }) (s.heap.objs.size + 1) s.heap.objs.size 0 .none := by
    have q := Heap.get?_push_size (s.heap.push itO) (o := { cls := .type "enumerate", data := .fields #[.none, .bool false, .ref s.heap.objs.size, rawInt 0, .none, .none] }) rfl
    rw [z] at q
    exact q
  exact ⟨⟨_, en, rfl⟩, h _ en (Heap.get?_push_of_some _ (Heap.get?_push_size _ B.free)) (by rw [Heap.size_push, z]) fun b o x => Heap.get?_push_of_some _ (Heap.get?_push_of_some _ x)⟩
theorem end2 {prog : Program} {w : World} {A : Around} {E : Value → Shared → Prop} {s : Shared} {e it a : Addr} {i : Int} {j : Nat} {its : Array Value} {old : Value} {Q : Option Value → Shared → Prop} (hh : A.handled = none)
    (hen : IsEnum s.heap e it i old) (hti : s.heap.IsTupleIter it a j) (tp : s.heap.IsTuple a its) (hx : its[j]? = none)
    (k : ∀ h', Heap.ExtBut it s.heap h' → Q none { s with heap := h' }) : wpAny (model prog w) A (pyNext (.ref e)) Q E s := by
  have ty : s.TypeIs (.ref e) "enumerate" := ⟨_, hen, rfl⟩
  unfold pyNext
  refine wpAny_bind (wpAny_attempt (wpAny_callSpecial?_slot (name := Str.ofString "__next__") ty F.slot_enumerate_next ?_))
  refine wpAny_call_entry F.slot_enumerate_next ty F.entry_enumerate_next ?_ (F.args_enumerate_next_1 _)
  show wpAny _ _ (field (.ref e) 2 >>= _) _ _ _
  refine wpAny_bind (wpAny_field hen rfl (x := .ref it) rfl (wpAny_bind (wpAny_nextOf_tuple_end hh hti tp hx fun h' x eb hxo => ?_)))
  obtain ⟨ob, hob, hcl⟩ := hxo
  exact wpAny_bind (wpAny_isInstance (T := "StopIteration") (b := true) ⟨ob, hob, hcl⟩ isSubtype_stop (wpAny_pure (k _ eb)))
end EnT
end PySem
namespace R
open PySem PySem.Spec PyProof.Rows L2
open PySem.W (Frag)
/-- the tuple at a, each item in a new pair -/
def IteT (K : Frag) (a : Addr) : It :=
  ⟨fun i H => ∃ (xs : List V) (x : V), SqT K H a xs ∧ xs[i]? = some x,
   fun i H v H' => ∃ T x, v = .ref T ∧ H T = none ∧ H' = upd H T (.tup [.int (i : Nat), x]) ∧ ∀ xs, SqT K H a xs → xs[i]? = some x,
   fun i H => ∃ xs : List V, SqT K H a xs ∧ xs.length ≤ i⟩
theorem apart_ti {h : Heap} {a it : Addr} {i : Nat} {its : Array Value} (t : h.IsTuple a its) (j : h.IsTupleIter it a i) : a ≠ it := by
  intro z
  obtain ⟨o1, q1, c1, _⟩ := t
  obtain ⟨o2, q2, c2, _⟩ := j
  rw [z, q2] at q1
  cases q1
  rw [c1] at c2
  exact absurd c2 (by decide)
theorem apart_te {h : Heap} {a e it : Addr} {i : Int} {old : Value} {its : Array Value} (t : h.IsTuple a its) (j : IsEnum h e it i old) : e ≠ a := by
  intro z
  obtain ⟨o1, q1, c1, _⟩ := t
  have q2 : h.get? e = some _ := j
  rw [← z, q2] at q1
  cases q1
  exact absurd (show Value.type "enumerate" = Value.type "tuple" from c1) (by decide)
theorem turn_enumT {P : Program} {w : World} {K : Frag} {elts : List Expr} {kk : Nat} {tpos : Pos} (a e it : Addr) :
    Turn P w K (.Tuple elts kk tpos) (IteT K a) [e, it] e (fun i h => (∃ old, IsEnum h e it ((i : Nat) : Int) old) ∧ h.IsTupleIter it a i ∧ e ≠ it) where
  mem := List.mem_cons_self
  obj := fun i h st b hb => by
    obtain ⟨⟨old, hen⟩, ⟨ob, hob, hcl, hdt⟩, _⟩ := st
    rcases List.mem_cons.mp hb with rfl | hb
    · exact ⟨_, hen, fun v q => nomatch q⟩
    · have z : b = it := by simpa using hb
      subst z
      exact ⟨ob, hob, fun v q => by rw [hdt] at q; cases q⟩
  keep := fun i h h' st k => by
    obtain ⟨⟨old, hen⟩, hti, ne⟩ := st
    exact ⟨⟨old, k e (by simp) _ hen⟩, hti.at fun o q => k it (by simp) o q, ne⟩
  item := by
    intro X hP hw hK hc i pins s σ H E I hf st hg
    subst hP hw hK
    obtain ⟨⟨old, hen⟩, hti, ne⟩ := st
    obtain ⟨xs, x, sq, hx⟩ := hg
    obtain ⟨its, rv, tp, _⟩ := I.tuple sq
    obtain ⟨u0, hu0, ru0⟩ := rv.get hx
    have tp' : s.heap.IsTuple a its.toArray := tp
    have n1 := apart_ti tp' hti
    have n2 := apart_te tp' hen
    have le1 : e < s.heap.objs.size := Heap.lt_size hen
    have le2 : it < s.heap.objs.size := by
      obtain ⟨_, q, _⟩ := hti
      exact Heap.lt_size q
    have hi : i < its.toArray.size := by
      obtain ⟨q, _⟩ := List.getElem?_eq_some_iff.mp hu0
      simpa using q
    refine wpAny_pyNext_enum_itemD (Draws.tuple (A := X.A.in1) (show X.A.in1.handled = none from I.ok.hd hc) it a n1 its.toArray) hen ⟨hti, tp'⟩ hi ne (by simp [ne, n2]) fun v h' tk hv hout hst hT _ hk => ?_
    have ev : v = u0 := by
      have q : its.toArray[i]? = some u0 := by simpa using hu0
      rw [q] at hv
      exact (Option.some.inj hv).symm
    subst ev
    refine ⟨_, rfl, wpAny_letOwnedTupleGo_enum (s := { s with heap := h', toks := tk + 1 }) hout fun h'' hen' sb => ?_⟩
    have hT2 : h''.get? s.heap.objs.size = some { cls := .type "tuple", data := .seq #[.int i tk, v] } := (sb.2 _ (Nat.ne_of_gt le1)).trans hT
    have kp : ∀ b ob, b ∉ [e, it] → s.heap.get? b = some ob → h''.get? b = some ob := fun b ob hb q => by
      have q1 : b ≠ e := fun z => hb (by simp [z])
      have q2 : b ≠ it := fun z => hb (by simp [z])
      exact (sb.2 b q1).trans (hk b ob q1 q2 q)
    have nw : ObjOk X.prog X.w (upd H s.heap.objs.size (.tup [.int (i : Nat), x])) h'' s.heap.objs.size (.tup [.int (i : Nat), x]) :=
      ⟨(by show 2 ≤ sizeLine; decide), [.int i tk, v], .cons ⟨_, rfl⟩ (.cons ru0 .nil), ⟨_, hT2, rfl, _, rfl⟩⟩
    have J : Inv X pins σ (upd H s.heap.objs.size (.tup [.int (i : Nat), x])) { s with heap := h'', toks := tk + 1 } := I.turnedNew (ch := [e, it]) kp hf (Nat.le_refl _) nw
    refine ⟨.ref s.heap.objs.size, _, J, rfl, ⟨_, x, rfl, I.hok.fresh (Nat.le_refl _), rfl, fun ys hy => by rw [I.tuple_inj hy sq]; exact hx⟩, ⟨⟨v, ?_⟩, hst.1.at fun o q => (sb.2 it (Ne.symm ne)).trans q, ne⟩, fun b hb => ?_⟩
    · have e1 : ((i + 1 : Nat) : Int) = (i : Int) + 1 := by omega
      rw [e1]
      exact hen'
    · have lb : b < s.heap.objs.size := by
        rcases List.mem_cons.mp hb with z | hb
        · rw [z]; exact le1
        · have z : b = it := by simpa using hb
          rw [z]; exact le2
      rw [upd_ne (Nat.ne_of_lt lb)]
      exact (hf b hb).1
  done := by
    intro X hP hw hK hc i pins s σ H E I hf st hg
    subst hP hw hK
    obtain ⟨⟨old, hen⟩, hti, ne⟩ := st
    obtain ⟨xs, sq, hx⟩ := hg
    obtain ⟨its, rv, tp, _⟩ := I.tuple sq
    have tp' : s.heap.IsTuple a its.toArray := tp
    obtain ⟨f0, f1, f2, f3, f4, f5⟩ := hf it (by simp)
    have hl := rv.length
    refine EnT.end2 (I.ok.hd hc) hen hti tp' (by simp; omega) fun h' eb => ?_
    exact ⟨rfl, I.turned (t' := s.toks) (fun b o hb q => eb b o hb q) f0 f1 f3 f4 f5⟩
  self := fun A i s Q E st h => by
    obtain ⟨⟨_, hen⟩, _⟩ := st
    exact wpAny_pyIter_enum hen h
def iEnumT (K : Frag) (ta : TA) : TI := fun σ H RR => ta σ H fun vs H1 => ∃ a xs, vs = [.ref a] ∧ SqT K H1 a xs ∧ RR (IteT K a) H1
theorem pi_enumT {X : Cx} {e : Expr} {ta : TA} {p pos tpos : Pos} {elts : List Expr} {kk : Nat} (hg : Gl X "enumerate") (hm : X.mg "enumerate" = none) (ha : PA X [e] ta) (hs : starEach [e] X.env = [(false, eval e X.env)] := by rfl) :
    PI X (.Tuple elts kk tpos) (.Call (.Name "enumerate" p) [e] [] pos) (iEnumT X.K ta) := by
  refine ⟨fun pins s σ H RR I h => ?_⟩
  refine Call_ (ld_blt I hg hm boot_enumerate (PyProof.Rows.callWith_type1 (thn (ha.run pos pins s σ H _ I h) fun us s1 ⟨vs, H1, I1, r1, q1⟩ => ?_) hs rfl))
  obtain ⟨a, xs, ev, sq, q⟩ := q1
  subst ev
  obtain ⟨u, hu, ru⟩ := vals1 r1
  subst hu
  cases ru
  obtain ⟨its, rv, tp, _⟩ := I1.tuple sq
  have tp' : s1.heap.IsTuple a its.toArray := tp
  refine EnT.call_new1 (begins_tuple a its.toArray) tp' fun h' hen hit _ hk => wpAny_pyIter_enum hen ?_
  have J : Inv X pins σ H1 { s1 with heap := h' } := I1.kept (t' := s1.toks) hk
  refine ⟨s1.heap.objs.size + 1, [s1.heap.objs.size + 1, s1.heap.objs.size], _, _, H1, rfl, J, turn_enumT a (s1.heap.objs.size + 1) s1.heap.objs.size, ⟨⟨.none, hen⟩, ⟨_, hit, rfl, rfl⟩, Nat.succ_ne_self _⟩, fun b hb => ?_, q⟩
  have le : s1.heap.objs.size ≤ b := by
    rcases List.mem_cons.mp hb with z | hb
    · rw [z]; exact Nat.le_succ _
    · have z : b = s1.heap.objs.size := by simpa using hb
      rw [z]; exact Nat.le_refl _
  exact I1.fpOk le (I1.hok.fresh le)
theorem walk_enumT {K : Frag} {a : Addr} {xs : List V} : Walk (IteT K a) xs.length (fun H => SqT K H a xs) (YPair (fun i => some (.int (i : Nat))) (fun i => xs[i]?)) := by
  refine ⟨fun i _ hi q => ⟨xs, xs[i], q, by simp [hi]⟩, fun _ q => ⟨xs, q, Nat.le_refl _⟩, fun i H v H' _ q y => ?_⟩
  obtain ⟨T, x, h1, h2, h3, h4⟩ := y
  exact ⟨T, .int (i : Nat), x, h1, h2, h3, rfl, h4 xs q⟩
end R
namespace R
open PySem PySem.Spec PyProof.Rows L2
open PySem.W (Frag)
theorem a_enumT {K : Frag} {tr : TA} {σ : L2.St} {H : Hp} {RR : It → Hp → Prop} (h : tr σ H fun vs H1 => ∃ a xs, vs = [.ref a] ∧ SqT K H1 a xs ∧ RR (IteT K a) H1) : iEnumT K tr σ H RR := h
end R

/-! ## fields of an own instance -/
namespace R
open PySem PySem.Spec PyProof.Rows L2
open PySem.W (Frag)
def rFld (K : Frag) (f : Str) : V → Hp → VK → Prop := fun x H Q => ∃ a C dx fs v, x = .ref a ∧ H a = some (.ins C dx fs) ∧ Cls K C ∧ NoAttr K C f ∧ fs.lookup f = some v ∧ Q v H
def rSetF (K : Frag) (f : Str) : V → V → Hp → (Hp → Prop) → Prop := fun x y H P => ∃ a C dx fs, x = .ref a ∧ H a = some (.ins C dx fs) ∧ Cls K C ∧ NoAttr K C f ∧ fs.length < 1000 ∧ P (upd H a (.ins C dx (putF f y fs)))
def NewI (C : Addr) (sp : Sp) (dvs : List V) (E : XK) (vs : List V) (H : Hp) (Q : VK) : Prop := ∀ x dx, H x = none → H dx = none → dx ≠ x →
  sp (.ref x :: (vs ++ dvs)) (upd (upd H dx (.own x)) x (.ins C dx [])) (fun v H2 => v = .non ∧ Q (.ref x) H2) E
section
variable {K : Frag} {f g : Str} {ta tv : TE} {σ : L2.St} {H B : Hp} {Q : VK} {D : Ends} {Lw : List (Addr × HO)} {a C dx : Addr} {fs : List (Str × V)} {v y : V}
theorem a_fld (h : ta σ H fun x H1 => rFld K f x H1 Q) : tFld K ta f σ H Q := h
theorem a_sfld (h : tv σ H fun y H1 => ta σ H1 fun x H2 => rSetF K f x y H2 fun H3 => D.nx σ H3) : sFld K ta tv f D σ H := h
theorem a_getF (h : H a = some (.ins C dx fs)) (cl : Cls K C) (n : NoAttr K C f) (hl : fs.lookup f = some v) (q : Q v H) : rFld K f (.ref a) H Q := ⟨a, C, dx, fs, v, rfl, h, cl, n, hl, q⟩
theorem a_setF {P : Hp → Prop} (O : Own B Lw H) (i : Nat) (h : Lw[i]? = some (a, .ins C dx fs)) (cl : Cls K C) (n : NoAttr K C f) (hl : fs.length < 1000) (q : ∀ H', Own B (Lw.set i (a, .ins C dx (putF f y fs))) H' → P H') : rSetF K f (.ref a) y H P :=
  ⟨a, C, dx, fs, rfl, O.get i h, cl, n, hl, q _ (O.put i h)⟩
theorem lk_eq : ((f, v) :: fs).lookup f = some v := by
  have hb : (f == f) = true := beq_iff_eq.mpr rfl
  simp only [List.lookup, hb]
theorem lk_ne (h : ¬ f = g) : ((g, v) :: fs).lookup f = fs.lookup f := by
  have hb : (f == g) = false := beq_eq_false_iff_ne.mpr h
  simp only [List.lookup, hb]
theorem put_ne (h : ¬ g = f) : putF f y ((g, v) :: fs) = (g, v) :: putF f y fs := by
  show (if g = f then (g, y) :: fs else (g, v) :: putF f y fs) = _
  rw [if_neg h]
theorem put_eq : putF f y ((f, v) :: fs) = (f, y) :: fs := by
  show (if f = f then (f, y) :: fs else (f, v) :: putF f y fs) = _
  rw [if_pos rfl]
theorem put_nil : putF f y [] = [(f, y)] := rfl
/-- a new instance -/
theorem a_make {sp : Sp} {dvs : List V} {E : XK} {t : TA} (h : t σ H fun vs H1 => NewI C sp dvs E vs H1 Q) : tMake C sp dvs E t σ H Q := h
end
end R

namespace R
open PySem PySem.Spec PyProof.Rows L2
open PySem.W (Frag)
variable {K : Frag} {v : V} {σ : L2.St} {H : Hp}
theorem a_glst {n : Nat} {gs : TGs} {p : Addr} {xs : List V} {Qs : L2.St → Hp → Prop} (hs : SqL K H p xs) (hl : xs.length = n) (h : gs xs σ H Qs) : gLst K n gs (.ref p) σ H Qs := ⟨p, xs, rfl, hs, hl, h⟩
theorem pg_lstK {X : Cx} {pos : Pos} {es : List Expr} {k : Nat} {t : TGs} {n : Nat} (hc : X.calm = true) (h : PGs X es t) (hK : X.K = K := by rfl) (hn : (assignEach es X.env).length = n := by rfl) (hst : (assignEach es X.env).findIdx? (·.1) = none := by rfl) : PG X (.Tuple es k pos) (gLst K n t) := by
  subst hK; exact pg_lst hc h hn hst
end R

/-! ## the numbers behind, and the first that fail -/
namespace R
open PySem PySem.Spec PyProof.Rows L2
open PySem.W (Frag)
/-- what a trick makes of n -/
def beh (b k t n : Int) : Int := n / b ^ k.toNat + t * (n % b ^ k.toNat)
/-- a number or None -/
def optV : Option Int → V
  | none => .non
  | some n => .int n
/-- the least number below i with p -/
def fstB (p : Int → Bool) (i : Nat) : Option Int := (List.range i).findSome? fun (j : Nat) => if p j = true then some (j : Int) else none
theorem fstB_zero {p : Int → Bool} : fstB p 0 = none := rfl
theorem fstB_step {p : Int → Bool} {i : Nat} : fstB p (i + 1) = (fstB p i).or (if p i = true then some (i : Int) else none) := by
  unfold fstB
  rw [List.range_succ, List.findSome?_append]
  congr 1
  cases c : p (i : Int) <;> simp [List.findSome?, c]
theorem fstB_yes {p : Int → Bool} {i : Nat} (h : fstB p i = none) (e : p i = true) : fstB p (i + 1) = some (i : Int) := by rw [fstB_step, h, if_pos e]; rfl
theorem fstB_no {p : Int → Bool} {i : Nat} (h : fstB p i = none) (e : p i = false) : fstB p (i + 1) = none := by rw [fstB_step, h, e]; rfl
theorem fstB_old {p : Int → Bool} {i : Nat} {x : Int} (h : fstB p i = some x) : fstB p (i + 1) = some x := by rw [fstB_step, h]; rfl
theorem fstB_hit {p : Int → Bool} {i : Nat} (h : fstB p i = none) (e : p i = true) : ∀ n : Nat, i < n → fstB p n = some (i : Int) := find_hit h (if_pos e)
theorem fstB_none {p : Int → Bool} {n : Nat} (h : fstB p n = none) {x : Int} (h0 : 0 ≤ x) (h1 : x < n) : p x = false := by
  unfold fstB at h
  rw [List.findSome?_eq_none_iff] at h
  have q := h x.toNat (List.mem_range.mpr (by omega))
  have e : ((x.toNat : Nat) : Int) = x := by omega
  rw [e] at q
  cases c : p x with
  | false => rfl
  | true => rw [if_pos c] at q; cases q
theorem fstB_some {p : Int → Bool} {n : Nat} {x : Int} (h : fstB p n = some x) : 0 ≤ x ∧ x < n ∧ p x = true := by
  unfold fstB at h
  obtain ⟨i, hi, e⟩ := List.exists_of_findSome?_eq_some h
  have h1 := List.mem_range.mp hi
  split at e
  · rename_i c
    cases e
    exact ⟨by omega, by omega, c⟩
  · cases e
/-- no rest is kept; a multiple and none -/
def unl (b k t d n : Int) : Bool := !decide (n % d = beh b k t n % d)
def fls (b k t d n : Int) : Bool := decide (n % d = 0) != decide (beh b k t n % d = 0)
theorem beh_turn {b k t d q m : Int} (hB : 0 < b ^ k.toNat) : beh b k t (q * (d * b ^ k.toNat) + m) = q * d + beh b k t m := by
  unfold beh
  generalize b ^ k.toNat = B at *
  have e : q * (d * B) + m = m + B * (q * d) := by
    rw [← Int.mul_assoc, Int.mul_comm (q * d) B]; omega
  rw [e, Int.add_mul_ediv_left _ _ (by omega), Int.add_mul_emod_self_left]
  omega
theorem turn_of {b k t d : Int} (hB : 0 < b ^ k.toNat) (hd : 0 < d) (n : Int) : ∃ m : Int, 0 ≤ m ∧ m < d * b ^ k.toNat ∧ n % d = m % d ∧ beh b k t n % d = beh b k t m % d := by
  have h : 0 < d * b ^ k.toNat := Int.mul_pos hd hB
  refine ⟨n % (d * b ^ k.toNat), Int.emod_nonneg _ (by omega), Int.emod_lt_of_pos _ h, ?_, ?_⟩
  · rw [Int.emod_emod_of_dvd _ (Int.dvd_mul_right d _)]
  · have e := Int.mul_ediv_add_emod n (d * b ^ k.toNat)
    rw [Int.mul_comm] at e
    have q := beh_turn (t := t) (d := d) (q := n / (d * b ^ k.toNat)) (m := n % (d * b ^ k.toNat)) hB
    rw [e] at q
    rw [q, Int.add_comm, Int.add_mul_emod_self_right]
theorem unl_all {b k t d : Int} (hB : 0 < b ^ k.toNat) (hd : 0 < d) (h : fstB (unl b k t d) (d * b ^ k.toNat).toNat = none) (n : Int) : unl b k t d n = false := by
  obtain ⟨m, h0, h1, e1, e2⟩ := turn_of (t := t) hB hd n
  have q := fstB_none h h0 (by omega)
  unfold unl at *
  rw [e1, e2]; exact q
theorem fls_all {b k t d : Int} (hB : 0 < b ^ k.toNat) (hd : 0 < d) (h : fstB (fls b k t d) (d * b ^ k.toNat).toNat = none) (n : Int) : fls b k t d n = false := by
  obtain ⟨m, h0, h1, e1, e2⟩ := turn_of (t := t) hB hd n
  have q := fstB_none h h0 (by omega)
  unfold fls at *
  rw [e1, e2]; exact q
section
variable {H : Hp} {Q : VK}
theorem a_neB {p q : Bool} (h : Q (.bl (p != q)) H) : rNe (.bl p) (.bl q) H Q := ⟨rfl, by rw [dec_bl]; exact h⟩
theorem a_eqB {p q : Bool} (h : Q (.bl (p == q)) H) : rEq (.bl p) (.bl q) H Q := ⟨rfl, by rw [dec_bl]; exact h⟩
theorem a_isO1 (h : Q (.bl true) H) : rIsN (optV none) .non H Q := a_isN1 h
theorem a_isO0 {n : Int} (h : Q (.bl false) H) : rIsN (optV (some n)) .non H Q := a_isN0 (fun z => by cases z) h
theorem a_notO1 (h : Q (.bl false) H) : rNotN (optV none) .non H Q := a_notN1 h
theorem a_notO0 {n : Int} (h : Q (.bl true) H) : rNotN (optV (some n)) .non H Q := a_notN0 (fun z => by cases z) h
theorem a_neO {o : Option Int} (h : Q (.bl false) H) : rNe (optV o) (optV o) H Q := by
  refine ⟨?_, ?_⟩
  · cases o <;> rfl
  · rw [decide_eq_true rfl]; exact h
end
end R
namespace R
open PySem PySem.Spec PyProof.Rows L2
theorem a_par3 {i j l : Nat} {tr : TA} {D : Ends} {σ : L2.St} {H : Hp} (h : tr σ H fun vs H1 => ∃ u v w, vs = [u, v, w] ∧ D.nx (((σ.set i (some u)).set j (some v)).set l (some w)) H1) : tPar3 i j l tr D σ H := h
theorem a_par33 {x y z : V} {A : V → V → V → Prop} (h : A x y z) : ∃ u v w, [x, y, z] = [u, v, w] ∧ A u v w := ⟨x, y, z, rfl, h⟩
end R

/-! ## sums of blocks, the plain side -/
namespace R
open PySem PySem.Spec PyProof.Rows L2
open PySem.W (Frag)
/-- the weight of a block -/
def wt (f l : List Int) (i : Nat) : Int := if i < f.length then (f[i]?).getD 0 else (l[(i - f.length) % l.length]?).getD 0
def nS (B n : Int) : Nat → Int
  | 0 => n
  | i + 1 => nS B n i / B
def sS (f l : List Int) (B n : Int) : Nat → Int
  | 0 => 0
  | i + 1 => sS f l B n i + wt f l i * (nS B n i % B)
/-- r is the sum for n -/
def totR (f l : List Int) (B n r : Int) : Prop := ∃ i, ¬ 0 < nS B n i ∧ (∀ j, j < i → 0 < nS B n j) ∧ r = sS f l B n i
theorem totR_one {f l : List Int} {B n r r' : Int} (h : totR f l B n r) (h' : totR f l B n r') : r = r' := by
  obtain ⟨i, a1, a2, a3⟩ := h
  obtain ⟨j, b1, b2, b3⟩ := h'
  have e : i = j := by
    by_cases c : i < j
    · exact absurd (b2 i c) a1
    · by_cases d : j < i
      · exact absurd (a2 j d) b1
      · omega
  rw [a3, b3, e]
structure SumOk (b k : Int) (f l : List Int) : Prop where
  hb : 2 ≤ b ∧ b ≤ 16
  hk : 1 ≤ k ∧ k ≤ 2
  hf : f.length ≤ 12
  hl : 1 ≤ l.length ∧ l.length ≤ 12
  wf : ∀ w ∈ f, -(10 ^ 6) ≤ w ∧ w ≤ 10 ^ 6
  wl : ∀ w ∈ l, -(10 ^ 6) ≤ w ∧ w ≤ 10 ^ 6
theorem SumOk.wt {b k : Int} {f l : List Int} (h : SumOk b k f l) (i : Nat) : -(10 ^ 6) ≤ R.wt f l i ∧ R.wt f l i ≤ 10 ^ 6 := by
  unfold R.wt
  by_cases c : i < f.length
  · rw [if_pos c, List.getElem?_eq_getElem c]
    exact h.wf _ (List.getElem_mem c)
  · have q : (i - f.length) % l.length < l.length := Nat.mod_lt _ h.hl.1
    rw [if_neg c, List.getElem?_eq_getElem q]
    exact h.wl _ (List.getElem_mem q)
end R

namespace R
/-- the powers of B by their rests -/
def pw (B d : Nat) : Nat → Nat
  | 0 => 1 % d
  | i + 1 => pw B d i * B % d
def runP (B d : Nat) : Nat → Nat → List Nat
  | 0, x => [x]
  | n + 1, x => x :: runP B d n (x * B % d)
def okP : List Nat → Bool
  | [] => true
  | [_] => true
  | x :: y :: l => okQ x y (y :: l) && okP (y :: l)
where okQ (x y : Nat) : List Nat → Bool
  | u :: v :: l => (y != v || x == u) && okQ x y (v :: l)
  | _ => true
def allP : Bool := (List.range 31).all fun d => (List.range 31).all fun r => okP (runP r d 15 (pw r d 5))
theorem allP_ok : allP = true := by decide +kernel
end R
namespace R
theorem okQ_imp {x y : Nat} : ∀ {M : List Nat} (_ : okP.okQ x y M = true) (k : Nat) (h : k + 1 < M.length), y = M[k + 1] → x = M[k]
  | [], _, k, h, _ => by simp at h
  | [_], _, k, h, _ => by simp at h
  | u :: v :: l, o, 0, _, e => by
    unfold okP.okQ at o
    rw [Bool.and_eq_true] at o
    have q := o.1
    simp only [List.getElem_cons_succ, List.getElem_cons_zero] at e ⊢
    simpa [e] using q
  | u :: v :: l, o, k + 1, h, e => by
    unfold okP.okQ at o
    rw [Bool.and_eq_true] at o
    exact okQ_imp (M := v :: l) o.2 k (by simpa using h) e
theorem okP_imp : ∀ {L : List Nat} (_ : okP L = true) (a c : Nat) (_ : a < c) (h : c + 1 < L.length), L[a + 1] = L[c + 1] → L[a] = L[c]
  | [], _, a, c, _, h, _ => by simp at h
  | [_], _, a, c, _, h, _ => by simp at h
  | x :: y :: l, o, 0, c + 1, _, h, e => by
    unfold okP at o
    rw [Bool.and_eq_true] at o
    exact okQ_imp o.1 c (by simpa using h) e
  | x :: y :: l, o, a + 1, c + 1, hac, h, e => by
    unfold okP at o
    rw [Bool.and_eq_true] at o
    exact okP_imp (L := y :: l) o.2 a c (by omega) (by simpa using h) e
theorem pw_mod (B d : Nat) : ∀ i, pw (B % d) d i = pw B d i
  | 0 => rfl
  | i + 1 => by
    show pw (B % d) d i * (B % d) % d = pw B d i * B % d
    rw [pw_mod B d i, Nat.mul_mod, Nat.mod_mod, ← Nat.mul_mod]
theorem runP_len (B d : Nat) : ∀ n x, (runP B d n x).length = n + 1
  | 0, _ => rfl
  | n + 1, x => by show (runP B d n _).length + 1 = n + 1 + 1; rw [runP_len B d n]
theorem runP_at (B d : Nat) : ∀ (n s k : Nat) (h : k < (runP B d n (pw B d s)).length), (runP B d n (pw B d s))[k] = pw B d (s + k)
  | 0, s, k, h => by
    have e : k = 0 := by
      have : k < 1 := h
      omega
    subst e; rfl
  | n + 1, s, 0, h => rfl
  | n + 1, s, k + 1, h => by
    have q := runP_at B d n (s + 1) k (by rw [runP_len] at h ⊢; omega)
    rw [show s + (k + 1) = s + 1 + k by omega]
    exact q
/-- how many powers stand ahead of those that come again -/
theorem few {B d i j : Nat} (hd : d ≤ 30) (hd0 : 0 < d) (hi : i ≤ 20) (hj : j < i) (e : pw B d j = pw B d i) (dis : ∀ a b, a < b → b < i → pw B d a ≠ pw B d b) : j ≤ 5 := by
  by_cases c : j ≤ 5
  · exact c
  · exfalso
    have hr : B % d < d := Nat.mod_lt _ hd0
    have o := allP_ok
    unfold allP at o
    rw [List.all_eq_true] at o
    have o1 := o d (List.mem_range.mpr (by omega))
    rw [List.all_eq_true] at o1
    have o2 := o1 (B % d) (List.mem_range.mpr (by omega))
    have q := okP_imp o2 (j - 6) (i - 6) (by omega) (by rw [runP_len]; omega)
    rw [runP_at, runP_at, runP_at, runP_at, pw_mod, pw_mod, pw_mod, pw_mod] at q
    rw [show 5 + (j - 6 + 1) = j by omega, show 5 + (i - 6 + 1) = i by omega, show 5 + (j - 6) = j - 1 by omega, show 5 + (i - 6) = i - 1 by omega] at q
    exact dis (j - 1) (i - 1) (by omega) (by omega) (q e)
end R

/-! ## lists of ints: in, index, slices -/
namespace R
open PySem PySem.Spec PyProof.Rows L2
open PySem.W (Frag)
theorem flat_ints (ms : List Int) : (ms.map V.int).all flatV = true := by
  rw [List.all_map]; exact List.all_eq_true.mpr fun _ _ => rfl
theorem inV_ints (r : Int) (ms : List Int) : inV (.int r) (ms.map V.int) = decide (r ∈ ms) := by
  unfold inV
  rw [List.any_map, Bool.eq_iff_iff, List.any_eq_true, decide_eq_true_iff]
  constructor
  · rintro ⟨x, hx, e⟩
    have e : (x == r) = true := e
    rw [beq_iff_eq] at e
    rw [← e]; exact hx
  · intro h
    exact ⟨r, h, by show (r == r) = true; exact beq_self_eq_true r⟩
section
variable {K : Frag} {B H : Hp} {Lw : List (Addr × HO)} {p : Addr} {r : Int} {ms : List Int} {Q : VK}
theorem a_inI (hs : SqL K H p (ms.map V.int)) (h : Q (.bl (decide (r ∈ ms))) H) : rIn K false (.int r) (.ref p) H Q :=
  ⟨p, _, rfl, .inl hs, rfl, flat_ints ms, by show Q (.bl (inV _ _)) H; rw [inV_ints]; exact h⟩
theorem a_ninI (hs : SqL K H p (ms.map V.int)) (h : Q (.bl (!decide (r ∈ ms))) H) : rIn K true (.int r) (.ref p) H Q :=
  ⟨p, _, rfl, .inl hs, rfl, flat_ints ms, by show Q (.bl (!inV _ _)) H; rw [inV_ints]; exact h⟩
theorem a_indexI {j : Nat} (hs : SqL K H p (ms.map V.int)) (hj : ms[j]? = some r) (hm : ∀ (m : Nat) (z : Int), m < j → ms[m]? = some z → z ≠ r) (h : Q (.int (j : Nat)) H) : rIndex K (.ref p) [.int r] H Q :=
  ⟨p, _, .int r, j, .int r, rfl, rfl, hs, rfl, flat_ints ms, by rw [List.getElem?_map, hj]; rfl, by show (r == r) = true; exact beq_self_eq_true r, fun m z' hm' e => by
    rw [List.getElem?_map] at e
    cases q : ms[m]? with
    | none => rw [q] at e; cases e
    | some z =>
      rw [q] at e
      have e : V.int z = z' := Option.some.inj e
      rw [← e]
      show (z == r) = false
      exact beq_eq_false_iff_ne.mpr (hm m z hm' q), h⟩
theorem cut_to (ms : List Int) (k : Nat) : cutV (ms.map V.int) none (some (k : Int)) = (ms.take k).map V.int := by
  unfold cutV
  rw [HT.sIx_none, HT.sIx_nat, List.drop_zero, Nat.sub_zero, List.map_take]
  by_cases c : k ≤ (ms.map V.int).length
  · rw [Nat.min_eq_left c]
  · rw [Nat.min_eq_right (by omega), List.take_of_length_le (by omega), List.take_of_length_le (by omega)]
theorem cut_from (ms : List Int) (k : Nat) : cutV (ms.map V.int) (some (k : Int)) none = (ms.drop k).map V.int := by
  unfold cutV
  rw [HT.sIx_none, HT.sIx_nat, List.map_drop]
  by_cases c : k ≤ (ms.map V.int).length
  · rw [Nat.min_eq_left c]
    exact List.take_of_length_le (by rw [List.length_drop]; omega)
  · rw [Nat.min_eq_right (by omega), List.drop_of_length_le (by omega), List.drop_of_length_le (by omega), List.take_nil]
theorem a_slTo {k : Nat} {n : Int} (hn : n = (k : Int)) (O : Own B Lw H) (hs : SqL K H p (ms.map V.int)) (q : ∀ l H', H l = none → Own B ((l, .lst ((ms.take k).map V.int)) :: Lw) H' → Q (.ref l) H') : rSlL K (.ref p) none (some n) H Q := by
  subst hn
  exact ⟨p, _, rfl, hs, fun l hl => by rw [cut_to]; exact q l _ hl (O.new hl)⟩
theorem a_slFrom {k : Nat} {n : Int} (hn : n = (k : Int)) (O : Own B Lw H) (hs : SqL K H p (ms.map V.int)) (q : ∀ l H', H l = none → Own B ((l, .lst ((ms.drop k).map V.int)) :: Lw) H' → Q (.ref l) H') : rSlL K (.ref p) (some n) none H Q := by
  subst hn
  exact ⟨p, _, rfl, hs, fun l hl => by rw [cut_from]; exact q l _ hl (O.new hl)⟩
end
theorem first_in {r : Int} : ∀ {ms : List Int}, r ∈ ms → ∃ j : Nat, ms[j]? = some r ∧ ∀ (m : Nat) (z : Int), m < j → ms[m]? = some z → z ≠ r
  | [], h => by simp at h
  | x :: l, h => by
    by_cases c : x = r
    · exact ⟨0, by rw [c]; rfl, fun m z hm => by omega⟩
    · rcases List.mem_cons.mp h with z | z
      · exact absurd z.symm c
      · obtain ⟨j, h1, h2⟩ := first_in z
        refine ⟨j + 1, h1, fun m z hm e => ?_⟩
        cases m with
        | zero =>
          have e : x = z := Option.some.inj e
          rw [← e]; exact c
        | succ m => exact h2 m z (by omega) e
/-- the powers' rests as ints -/
def PL (B d i : Nat) : List Int := (List.range i).map fun j => ((pw B d j : Nat) : Int)
theorem PL_succ (B d i : Nat) : PL B d (i + 1) = PL B d i ++ [((pw B d i : Nat) : Int)] := by
  unfold PL
  rw [List.range_succ, List.map_append]; rfl
theorem PL_len (B d i : Nat) : (PL B d i).length = i := by unfold PL; rw [List.length_map, List.length_range]
theorem PL_at {B d i j : Nat} (h : j < i) : (PL B d i)[j]? = some ((pw B d j : Nat) : Int) := by
  unfold PL
  rw [List.getElem?_map, List.getElem?_range h]; rfl
theorem PL_mem {B d i : Nat} {x : Int} (h : x ∈ PL B d i) : ∃ j, j < i ∧ x = ((pw B d j : Nat) : Int) := by
  obtain ⟨j, h1, h2⟩ := List.mem_map.mp h
  exact ⟨j, List.mem_range.mp h1, h2.symm⟩
theorem pw_lt {B d : Nat} (hd : 0 < d) : ∀ i, pw B d i < d
  | 0 => Nat.mod_lt _ hd
  | i + 1 => Nat.mod_lt _ hd
theorem PL_bd {B d i : Nat} (hd : 0 < d) {x : Int} (h : x ∈ PL B d i) : 0 ≤ x ∧ x < d := by
  obtain ⟨j, _, rfl⟩ := PL_mem h
  have := pw_lt (B := B) hd j
  omega
theorem pw_zero (B d : Nat) : (1 : Int) % (d : Int) = ((pw B d 0 : Nat) : Int) := rfl
theorem pw_next (B d i : Nat) : ((pw B d i : Nat) : Int) * (B : Int) % (d : Int) = ((pw B d (i + 1) : Nat) : Int) := rfl
end R

/-! ## sums: what comes again -/
namespace R
open PySem L2
theorem pw_pow (B d : Nat) : ∀ i, pw B d i = B ^ i % d
  | 0 => by rw [Nat.pow_zero]; rfl
  | i + 1 => by
    show pw B d i * B % d = _
    rw [pw_pow B d i, Nat.pow_succ, Nat.mod_mul_mod]
theorem pw_shift {B d a n : Nat} (e : pw B d a = pw B d n) : ∀ k, pw B d (a + k) = pw B d (n + k)
  | 0 => e
  | k + 1 => by
    show pw B d (a + k) * B % d = pw B d (n + k) * B % d
    rw [pw_shift e k]
theorem pw_ring {B d a n : Nat} (h : a ≤ n) (e : pw B d a = pw B d n) : ∀ (q i : Nat), a ≤ i → pw B d (i + q * (n - a)) = pw B d i
  | 0, i, _ => by rw [Nat.zero_mul]; rfl
  | q + 1, i, hi => by
    have z := pw_shift e (i - a + q * (n - a))
    rw [show a + (i - a + q * (n - a)) = i + q * (n - a) by omega] at z
    rw [show i + (q + 1) * (n - a) = n + (i - a + q * (n - a)) by rw [Nat.add_mul, Nat.one_mul]; omega, ← z]
    exact pw_ring h e q i hi
theorem wt_ring {f l : List Int} (q : Nat) {i : Nat} (hi : f.length ≤ i) : wt f l (i + q * l.length) = wt f l i := by
  unfold wt
  rw [if_neg (by omega), if_neg (by omega), show i + q * l.length - f.length = i - f.length + l.length * q by rw [Nat.mul_comm]; omega, Nat.add_mul_mod_self_left]
/-- the power of block i is not kept by its weight -/
def badP (B d : Nat) (f l : List Int) (i : Nat) : Bool := !decide ((((B ^ i : Nat) : Int) - wt f l i) % (d : Int) = 0)
theorem badP_pw (B d : Nat) (f l : List Int) (i : Nat) : badP B d f l i = !decide ((((pw B d i : Nat) : Int) - wt f l i) % (d : Int) = 0) := by
  unfold badP
  rw [pw_pow, Int.natCast_emod, Int.emod_sub_emod]
theorem badP_ring {B d a n : Nat} {f l : List Int} (h : a ≤ n) (e : pw B d a = pw B d n) {i : Nat} (h1 : a ≤ i) (h2 : f.length ≤ i) : badP B d f l (i + Nat.lcm (n - a) l.length) = badP B d f l i := by
  rw [badP_pw, badP_pw]
  obtain ⟨q1, e1⟩ := Nat.dvd_lcm_left (n - a) l.length
  obtain ⟨q2, e2⟩ := Nat.dvd_lcm_right (n - a) l.length
  have w1 : pw B d (i + Nat.lcm (n - a) l.length) = pw B d i := by rw [e1, Nat.mul_comm]; exact pw_ring h e q1 i h1
  have w2 : wt f l (i + Nat.lcm (n - a) l.length) = wt f l i := by rw [e2, Nat.mul_comm]; exact wt_ring q2 h2
  rw [w1, w2]
theorem none_all {p : Nat → Bool} {s L : Nat} (hL : 0 < L) (per : ∀ i, s ≤ i → p (i + L) = p i) (h : ∀ i, i < s + L → p i = false) : ∀ i, p i = false := by
  intro i
  induction i using Nat.strongRecOn with
  | ind i ih =>
    by_cases c : i < s + L
    · exact h i c
    · have z := per (i - L) (by omega)
      rw [show i - L + L = i by omega] at z
      rw [z]; exact ih _ (by omega)
/-- the first place below m -/
def fstN (p : Nat → Bool) (m : Nat) : Option Nat := (List.range m).findSome? fun j => if p j = true then some j else none
theorem fstN_yes {p : Nat → Bool} {i : Nat} (h : fstN p i = none) (e : p i = true) : fstN p (i + 1) = some i := by unfold fstN at *; rw [List.range_succ, List.findSome?_append, h]; simp [e]
theorem fstN_no {p : Nat → Bool} {i : Nat} (h : fstN p i = none) (e : p i = false) : fstN p (i + 1) = none := by unfold fstN at *; rw [List.range_succ, List.findSome?_append, h]; simp [e]
theorem fstN_old {p : Nat → Bool} {i x : Nat} (h : fstN p i = some x) : fstN p (i + 1) = some x := by unfold fstN at *; rw [List.range_succ, List.findSome?_append, h]; rfl
theorem fstN_hit {p : Nat → Bool} {i : Nat} (h : fstN p i = none) (e : p i = true) : ∀ n : Nat, i < n → fstN p n = some i := find_hit h (if_pos e)
theorem fstN_none {p : Nat → Bool} {m : Nat} (h : fstN p m = none) {i : Nat} (hi : i < m) : p i = false := by
  unfold fstN at h
  rw [List.findSome?_eq_none_iff] at h
  have q := h i (List.mem_range.mpr hi)
  cases c : p i with
  | false => rfl
  | true => rw [if_pos c] at q; cases q
theorem fstN_some {p : Nat → Bool} {m x : Nat} (h : fstN p m = some x) : x < m ∧ p x = true ∧ ∀ i, i < x → p i = false := by
  induction m with
  | zero => cases h
  | succ m ih =>
    cases c : fstN p m with
    | some y =>
      rw [fstN_old c] at h
      cases h
      have q := ih c
      exact ⟨by omega, q.2⟩
    | none =>
      cases e : p m with
      | true => rw [fstN_yes c e] at h; cases h; exact ⟨by omega, e, fun i hi => fstN_none c hi⟩
      | false => rw [fstN_no c e] at h; cases h
theorem fstN_ext {p : Nat → Bool} {m n : Nat} (h : m ≤ n) (k : fstN p m = none → ∀ i, p i = false) : fstN p n = fstN p m := by
  cases c : fstN p m with
  | none =>
    cases e : fstN p n with
    | none => rfl
    | some x =>
      have q := (fstN_some e).2.1
      rw [k c x] at q; cases q
  | some x =>
    obtain ⟨h1, h2, h3⟩ := fstN_some c
    refine fstN_hit (i := x) ?_ h2 n (by omega)
    cases e : fstN p x with
    | none => rfl
    | some y => have q := fstN_some e; rw [h3 y q.1] at q; exact absurd q.2.1 (by decide)
end R
namespace R
theorem nodup_le : ∀ {l D : List Int}, l.Nodup → (∀ x, x ∈ l → x ∈ D) → l.length ≤ D.length
  | [], _, _, _ => Nat.zero_le _
  | x :: l, D, nd, h => by
    rw [List.nodup_cons] at nd
    have hx := h x List.mem_cons_self
    have q := nodup_le (l := l) (D := D.erase x) nd.2 fun y hy => (List.mem_erase_of_ne (fun z : y = x => nd.1 (by rw [← z]; exact hy))).mpr (h y (List.mem_cons_of_mem _ hy))
    rw [List.length_erase_of_mem hx] at q
    have := List.length_pos_of_mem hx
    rw [List.length_cons]; omega
/-- the rests of the powers: n of them, and the place from which on they come again -/
structure PowOf (B d n a : Nat) : Prop where
  lt : a < n
  again : pw B d a = pw B d n
  dis : ∀ i j, i < j → j < n → pw B d i ≠ pw B d j
theorem pl_nodup {B d n : Nat} (h : ∀ i j, i < j → j < n → pw B d i ≠ pw B d j) : (PL B d n).Nodup := by
  unfold PL
  rw [List.nodup_iff_pairwise_ne, List.pairwise_map]
  refine List.Pairwise.imp_of_mem ?_ (List.pairwise_lt_range (n := n))
  intro i j _ hj hij e
  exact h i j hij (List.mem_range.mp hj) (by omega)
theorem pw_few {B d n : Nat} (hd : 0 < d) (h : ∀ i j, i < j → j < n → pw B d i ≠ pw B d j) : n ≤ d := by
  have q := nodup_le (D := (List.range d).map fun (j : Nat) => (j : Int)) (pl_nodup h) fun x hx => by
    have b := PL_bd hd hx
    exact List.mem_map.mpr ⟨x.toNat, List.mem_range.mpr (by omega), by omega⟩
  rw [PL_len, List.length_map, List.length_range] at q
  exact q
theorem PowOf.le {B d n a : Nat} (hd : 0 < d) (h : PowOf B d n a) : n ≤ d := pw_few hd h.dis
/-- the first place of all, if there is one -/
def FstOf (p : Nat → Bool) : Option Nat → Prop
  | none => ∀ i, p i = false
  | some i => p i = true ∧ ∀ j, j < i → p j = false
theorem FstOf.one {p : Nat → Bool} : ∀ {r s : Option Nat}, FstOf p r → FstOf p s → r = s
  | none, none, _, _ => rfl
  | none, some i, h, g => by have := h i; rw [g.1] at this; cases this
  | some i, none, h, g => by have := g i; rw [h.1] at this; cases this
  | some i, some j, h, g => by
    by_cases c : i < j
    · have := g.2 i c; rw [h.1] at this; cases this
    · by_cases d : j < i
      · have := h.2 j d; rw [g.1] at this; cases this
      · rw [show i = j by omega]
theorem FstOf.of {p : Nat → Bool} {m : Nat} (k : fstN p m = none → ∀ i, p i = false) : FstOf p (fstN p m) := by
  cases e : fstN p m with
  | none => exact k e
  | some i => exact ⟨(fstN_some e).2.1, (fstN_some e).2.2⟩
/-- so many blocks are enough -/
def lookN (f l : List Int) (n a : Nat) : Nat := max a f.length + Nat.lcm (n - a) l.length
theorem look_all {B d n a : Nat} {f l : List Int} (hl : 0 < l.length) (h : PowOf B d n a) (e : fstN (badP B d f l) (lookN f l n a) = none) : ∀ i, badP B d f l i = false := by
  refine none_all (s := max a f.length) (L := Nat.lcm (n - a) l.length) (Nat.lcm_pos (by have := h.lt; omega) hl) (fun i hi => ?_) fun i hi => fstN_none e hi
  exact badP_ring (Nat.le_of_lt h.lt) h.again (by omega) (by omega)
theorem look_le {B d n a : Nat} {f l : List Int} (hd : 0 < d) (h : PowOf B d n a) (d30 : d ≤ 30) (f12 : f.length ≤ 12) (l12 : l.length ≤ 12) : lookN f l n a ≤ 390 := by
  have hn := h.le hd
  have ha := h.lt
  have q : Nat.lcm (n - a) l.length ≤ (n - a) * l.length := by
    unfold Nat.lcm
    exact Nat.div_le_self _ _
  have q2 : (n - a) * l.length ≤ (n - a) * 12 := Nat.mul_le_mul_left _ l12
  unfold lookN
  omega
open PySem L2 in
def optPow (B : Nat) : Option Nat → L2.V
  | none => .non
  | some i => .int ((B : Int) ^ i)
end R

/-! ## what a call has changed of one owned thing, and laid anew -/
namespace R
open PySem L2
theorem Own.comp {B H H' : Hp} {Lw New : List (Addr × HO)} {row : Addr} {o o' : HO} (O : Own B Lw H) (i : Nat) (h : Lw[i]? = some (row, o)) (O2 : Own (del1 H row) (New ++ [(row, o')]) H') : Own B (New ++ Lw.set i (row, o')) H' := by
  have hB := O.gone i h
  have hR : H' row = some o' := O2.ow (row, o') (List.mem_append.mpr (.inr (List.mem_singleton.mpr rfl)))
  have nd2 := O2.nd
  rw [List.map_append, List.nodup_append] at nd2
  have old : ∀ x ∈ Lw, x.1 ≠ row → H' x.1 = some x.2 := fun x hx ne => O2.st _ _ (by rw [del1_ne ne]; exact O.ow x hx)
  have hk : (Lw.set i (row, o')).map (·.1) = Lw.map (·.1) := set_map1 h
  refine ⟨fun a v e => O2.st a v ?_, fun q hq => ?_, fun q hq => ?_, ?_⟩
  · rw [del1_ne (fun z => by rw [z, hB] at e; cases e)]
    exact O.st _ _ e
  · rcases List.mem_append.mp hq with hq | hq
    · exact O2.ow q (List.mem_append.mpr (.inl hq))
    · rcases mem_set1 O.nd h hq with rfl | ⟨h1, h2⟩
      · exact hR
      · exact old q h1 h2
  · rcases List.mem_append.mp hq with hq | hq
    · have z := O2.no q (List.mem_append.mpr (.inl hq))
      cases e : B q.1 with
      | none => rfl
      | some v =>
        rw [del1_ne (fun y => by rw [y, hB] at e; cases e), O.st _ _ e] at z
        cases z
    · rcases mem_set1 O.nd h hq with rfl | ⟨h1, h2⟩
      · exact hB
      · exact O.no q h1
  · rw [List.map_append, List.nodup_append, hk]
    refine ⟨nd2.1, O.nd, fun a ha c hc e => ?_⟩
    subst e
    obtain ⟨q, hq, rfl⟩ := List.mem_map.mp ha
    obtain ⟨x, hx, ex⟩ := List.mem_map.mp hc
    by_cases z : q.1 = row
    · exact nd2.2.2 q.1 ha row (List.mem_map.mpr ⟨(row, o'), List.mem_singleton.mpr rfl, rfl⟩) z
    · have y := O2.no q (List.mem_append.mpr (.inl hq))
      rw [del1_ne z, ← ex, O.ow x hx] at y
      cases y
end R

namespace R
open PySem PySem.Spec PyProof.Rows L2
open PySem.W (Frag)
theorem a_rng3 {tr : TA} {σ : L2.St} {H : Hp} {RR : It → Hp → Prop} (h : tr σ H fun vs H1 => ∃ (i j c : Int) (n : Nat), vs = [.int i, .int j, .int c] ∧ RgC i j c n ∧ RR (Itc i c n) H1) : iRng3 tr σ H RR := h
theorem a_rngD {i j : Int} {A : Int → Int → Int → Nat → Prop} (h1 : -(2 ^ 62) ≤ i ∧ i < 2 ^ 62 ∧ -(2 ^ 62) ≤ j ∧ j < 2 ^ 62) (h : A i j (-1) (i - j).toNat) : ∃ (a b c : Int) (n : Nat), [V.int i, V.int j, V.int (-1)] = [.int a, .int b, .int c] ∧ RgC a b c n ∧ A a b c n :=
  ⟨i, j, -1, _, rfl, RgC.neg h1.1 h1.2.1 h1.2.2.1 h1.2.2.2, h⟩
/-! ## the greatest number that gets no less -/
def grows (b k t s : Int) : Prop := s ≤ ((beh b k t s).natAbs : Int) ∨ s ≤ ((beh b k t (-s)).natAbs : Int)
def wideN (b k t : Int) : Int := (1 + (t.natAbs : Int) * (b ^ k.toNat - 1)) * b ^ k.toNat / (b ^ k.toNat - 1) + 2
theorem less_far {B t s n : Int} (hB : 2 ≤ B) (hs : (1 + (t.natAbs : Int) * (B - 1)) * B / (B - 1) + 2 < s) (h1 : -s ≤ n) (h2 : n ≤ s) : ((n / B + t * (n % B)).natAbs : Int) < s := by
  have r0 := Int.emod_nonneg n (show B ≠ 0 by omega)
  have r1 := Int.emod_lt_of_pos n (show 0 < B by omega)
  have e := Int.mul_ediv_add_emod n B
  generalize n / B = q at *
  generalize n % B = r at *
  have a0 : 0 ≤ (t.natAbs : Int) := by omega
  have a1 : -(t.natAbs : Int) ≤ t := by omega
  have a2 : t ≤ (t.natAbs : Int) := by omega
  generalize (t.natAbs : Int) = a at *
  have u1 : t * r ≤ a * (B - 1) := Int.le_trans (Int.mul_le_mul_of_nonneg_right a2 r0) (Int.mul_le_mul_of_nonneg_left (by omega) a0)
  have u2 : -(a * (B - 1)) ≤ t * r := by
    have z1 : (-a) * r ≤ t * r := Int.mul_le_mul_of_nonneg_right a1 r0
    have z2 : a * r ≤ a * (B - 1) := Int.mul_le_mul_of_nonneg_left (by omega) a0
    rw [Int.neg_mul] at z1
    omega
  have T0 : 0 ≤ a * (B - 1) := Int.mul_nonneg a0 (by omega)
  generalize a * (B - 1) = T at *
  generalize t * r = u at *
  have w := Int.lt_mul_of_ediv_lt (a := (1 + T) * B) (b := s - 2) (c := B - 1) (by omega) (by omega)
  have e1 : (1 + T) * B = B + B * T := by rw [Int.add_mul, Int.one_mul, Int.mul_comm T]
  have e2 : (s - 2) * (B - 1) = B * s - s - 2 * B + 2 := by
    rw [Int.sub_mul, Int.mul_sub, Int.mul_sub, Int.mul_one, Int.mul_comm s B]; omega
  rw [e1, e2] at w
  have v1 : B * u ≤ B * T := Int.mul_le_mul_of_nonneg_left u1 (by omega)
  have v2 : B * (-T) ≤ B * u := Int.mul_le_mul_of_nonneg_left u2 (by omega)
  rw [Int.mul_neg] at v2
  have c1 : B * (q + u) < B * s := by rw [Int.mul_add]; omega
  have c2 : B * (-s) < B * (q + u) := by rw [Int.mul_add, Int.mul_neg]; omega
  have d1 := Int.lt_of_mul_lt_mul_left c1 (by omega)
  have d2 := Int.lt_of_mul_lt_mul_left c2 (by omega)
  omega
theorem grows_far {b k t s : Int} (hB : 2 ≤ b ^ k.toNat) (hs : wideN b k t < s) : ¬ grows b k t s := by
  unfold wideN at hs
  have s0 : 0 ≤ s := by
    have z : 0 ≤ (1 + (t.natAbs : Int) * (b ^ k.toNat - 1)) * b ^ k.toNat / (b ^ k.toNat - 1) := by
      refine Int.ediv_nonneg (Int.mul_nonneg ?_ (by omega)) (by omega)
      have := Int.mul_nonneg (show 0 ≤ (t.natAbs : Int) by omega) (show 0 ≤ b ^ k.toNat - 1 by omega)
      omega
    omega
  have h1 := less_far (t := t) (n := s) hB hs (by omega) (by omega)
  have h2 := less_far (t := t) (n := -s) hB hs (by omega) (by omega)
  unfold grows beh
  omega
structure BoundOf (b k t m : Int) : Prop where
  low : 0 ≤ m
  high : m ≤ wideN b k t
  hit : 0 < m → grows b k t m
  all : ∀ s, m < s → ¬ grows b k t s
theorem wide_small {b k t : Int} (hB : 2 ≤ b ^ k.toNat ∧ b ^ k.toNat ≤ 256) (ht : -100 ≤ t ∧ t ≤ 100) : 2 ≤ wideN b k t ∧ wideN b k t ≤ 10000000 := by
  unfold wideN
  generalize b ^ k.toNat = B at *
  have a0 : 0 ≤ (t.natAbs : Int) := by omega
  have a1 : (t.natAbs : Int) ≤ 100 := by omega
  generalize (t.natAbs : Int) = a at *
  have T0 : 0 ≤ a * (B - 1) := Int.mul_nonneg a0 (by omega)
  have T1 : a * (B - 1) ≤ 100 * 255 := Int.mul_le_mul a1 (by omega) (by omega) (by omega)
  generalize a * (B - 1) = T at *
  have W0 : 0 ≤ (1 + T) * B := Int.mul_nonneg (by omega) (by omega)
  have W1 : (1 + T) * B ≤ 25501 * 256 := Int.mul_le_mul (by omega) hB.2 (by omega) (by omega)
  generalize (1 + T) * B = W at *
  have d0 : 0 ≤ W / (B - 1) := Int.ediv_nonneg W0 (by omega)
  have d1 : W / (B - 1) ≤ W := Int.ediv_le_self _ W0
  omega
end R

/-! ## sums: the pairs of rests that numbers of so many blocks have -/
namespace R
/-- the sum of the first i blocks -/
def ttl (B : Nat) (f l : List Int) (n : Nat) : Nat → Int
  | 0 => 0
  | i + 1 => ttl B f l n i + wt f l i * ((n / B ^ i % B : Nat) : Int)
section
variable {B d : Nat} {f l : List Int}
theorem dig_low {m g i j : Nat} (h : j < i) : (m + g * B ^ i) / B ^ j % B = m / B ^ j % B := by
  by_cases hB : B = 0
  · subst hB
    rw [Nat.zero_pow (by omega)]
    simp
  · have hp : 0 < B ^ j := Nat.pow_pos (by omega)
    have e : g * B ^ i = B ^ j * (g * B ^ (i - j)) := by
      rw [← Nat.mul_assoc, Nat.mul_comm (B ^ j) g, Nat.mul_assoc, ← Nat.pow_add, show j + (i - j) = i by omega]
    rw [e, Nat.add_mul_div_left _ _ hp]
    rw [show B ^ (i - j) = B ^ (i - j - 1) * B by rw [← Nat.pow_succ]; congr 1; omega, ← Nat.mul_assoc, Nat.add_mul_mod_self_right]
theorem ttl_low {m g i : Nat} : ∀ j, j ≤ i → ttl B f l (m + g * B ^ i) j = ttl B f l m j
  | 0, _ => rfl
  | j + 1, h => by
    rw [ttl, ttl, ttl_low j (by omega), dig_low (by omega)]
theorem ttl_zero : ∀ j, ttl B f l 0 j = 0
  | 0 => rfl
  | j + 1 => by rw [ttl, ttl_zero j, Nat.zero_div, Nat.zero_mod]; simp
/-- noughts ahead -/
theorem ttl_up (hB : 2 ≤ B) {n i : Nat} (h : n < B ^ i) : ∀ j, i ≤ j → ttl B f l n j = ttl B f l n i
  | 0, h2 => by rw [Nat.le_zero.mp h2]
  | j + 1, h2 => by
    by_cases e : i = j + 1
    · rw [e]
    · have le : B ^ i ≤ B ^ j := Nat.pow_le_pow_right (by omega) (by omega)
      rw [ttl, ttl_up hB h j (by omega), Nat.div_eq_of_lt (by omega), Nat.zero_mod]
      simp
theorem lt_pow_self (hB : 2 ≤ B) (n : Nat) : n < B ^ n := Nat.lt_pow_self (by omega)
/-- a number on top of others -/
theorem ttl_add (hB : 2 ≤ B) {m g i : Nat} (h : m < B ^ i) : ∀ j, i ≤ j → ttl B f l (m + g * B ^ i) j = ttl B f l (g * B ^ i) j + ttl B f l m j
  | 0, h2 => by simp [ttl]
  | j + 1, h2 => by
    by_cases e : i = j + 1
    · subst e
      have h1 : ttl B f l (m + g * B ^ (j + 1)) (j + 1) = ttl B f l m (j + 1) := ttl_low (j + 1) (Nat.le_refl _)
      have h0 : ttl B f l (0 + g * B ^ (j + 1)) (j + 1) = ttl B f l 0 (j + 1) := ttl_low (j + 1) (Nat.le_refl _)
      rw [Nat.zero_add, ttl_zero] at h0
      rw [h1, h0, Int.zero_add]
    · have ih := ttl_add hB h j (by omega) (g := g)
      have le : B ^ i ≤ B ^ j := Nat.pow_le_pow_right (by omega) (by omega)
      have hp : 0 < B ^ i := Nat.pow_pos (by omega)
      have e1 : (m + g * B ^ i) / B ^ j = g * B ^ i / B ^ j := by
        rw [show B ^ j = B ^ i * B ^ (j - i) by rw [← Nat.pow_add]; congr 1; omega, ← Nat.div_div_eq_div_mul, ← Nat.div_div_eq_div_mul, Nat.add_mul_div_right _ _ hp, Nat.mul_div_cancel _ hp, Nat.div_eq_of_lt h, Nat.zero_add]
      rw [ttl, ttl, ttl, ih, e1, Nat.div_eq_of_lt (a := m) (b := B ^ j) (by omega), Nat.zero_mod]
      simp only [Int.natCast_zero, Int.mul_zero, Int.add_zero]
      omega
theorem ttl_one (hB : 2 ≤ B) {x i : Nat} (hx : x < B) : ∀ j, i < j → ttl B f l (x * B ^ i) j = wt f l i * x
  | 0, h => by omega
  | j + 1, h => by
    have hp : 0 < B ^ i := Nat.pow_pos (by omega)
    by_cases e : i = j
    · subst e
      have h0 : ttl B f l (0 + x * B ^ i) i = ttl B f l 0 i := ttl_low i (Nat.le_refl _)
      rw [Nat.zero_add, ttl_zero] at h0
      rw [ttl, h0, Nat.mul_div_cancel _ hp, Nat.mod_eq_of_lt hx, Int.zero_add]
    · rw [ttl, ttl_one hB hx j (by omega)]
      have lt : x * B ^ i < B ^ j := by
        have h1 : x * B ^ i < B * B ^ i := Nat.mul_lt_mul_of_pos_right hx hp
        have h2 : B ^ (i + 1) ≤ B ^ j := Nat.pow_le_pow_right (by omega) (by omega)
        rw [Nat.pow_succ, Nat.mul_comm] at h2
        omega
      rw [Nat.div_eq_of_lt lt, Nat.zero_mod]
      simp
/-- the pair of rests of a number of i blocks -/
def rests (B d : Nat) (f l : List Int) (i n : Nat) : Int × Int := ((n : Int) % d, ttl B f l n i % d)
def Rch (B d : Nat) (f l : List Int) (i : Nat) (q : Int × Int) : Prop := ∃ n : Nat, n < B ^ i ∧ q = rests B d f l i n
/-- one block more: x of them -/
def stepP (d : Nat) (u w : Int) (p : Int × Int) (x : Nat) : Int × Int := ((p.1 + x * u) % d, (p.2 + x * w) % d)
theorem stepP_mod (u w : Int) (p : Int × Int) (x : Nat) : stepP d (u % d) (w % d) p (x % d) = stepP d u w p x := by
  have key : ∀ a v : Int, (a + ((x % d : Nat) : Int) * (v % d)) % d = (a + x * v) % d := fun a v => by
    rw [Int.natCast_emod, Int.add_emod, ← Int.mul_emod, ← Int.add_emod]
  unfold stepP
  rw [key, key]
theorem rch_zero {q : Int × Int} : Rch B d f l 0 q ↔ q = (0, 0) := by
  unfold Rch rests
  constructor
  · rintro ⟨n, hn, rfl⟩
    have : n = 0 := by simpa using hn
    subst this
    simp [ttl]
  · rintro rfl
    exact ⟨0, by simp, by simp [ttl]⟩
theorem rch_succ (hB : 2 ≤ B) {i : Nat} {q : Int × Int} : Rch B d f l (i + 1) q ↔ ∃ p, Rch B d f l i p ∧ ∃ x, x < B ∧ q = stepP d ((B ^ i : Nat) : Int) (wt f l i) p x := by
  have hp : 0 < B ^ i := Nat.pow_pos (by omega)
  have one : ∀ m x : Nat, m < B ^ i → x < B → rests B d f l (i + 1) (m + x * B ^ i) = stepP d ((B ^ i : Nat) : Int) (wt f l i) (rests B d f l i m) x := fun m x hm hx => by
    unfold rests stepP
    rw [ttl_add hB hm (i + 1) (by omega), ttl_one hB hx (i + 1) (by omega), ttl_up hB hm (i + 1) (by omega)]
    rw [Int.natCast_add, Int.natCast_mul, Int.emod_add_emod, Int.emod_add_emod, Int.add_comm (wt f l i * x), Int.mul_comm (wt f l i)]
  constructor
  · rintro ⟨n, hn, rfl⟩
    have hm : n % B ^ i < B ^ i := Nat.mod_lt _ hp
    have hx : n / B ^ i < B := by
      rw [Nat.div_lt_iff_lt_mul hp]
      rw [Nat.pow_succ, Nat.mul_comm] at hn
      exact hn
    refine ⟨rests B d f l i (n % B ^ i), ⟨_, hm, rfl⟩, n / B ^ i, hx, ?_⟩
    rw [← one _ _ hm hx, Nat.mul_comm, Nat.mod_add_div]
  · rintro ⟨p, ⟨m, hm, rfl⟩, x, hx, rfl⟩
    refine ⟨m + x * B ^ i, ?_, (one m x hm hx).symm⟩
    have h1 : x * B ^ i ≤ (B - 1) * B ^ i := Nat.mul_le_mul_right _ (by omega)
    rw [Nat.sub_mul, Nat.one_mul] at h1
    have h2 : B ^ i ≤ B * B ^ i := Nat.le_mul_of_pos_left _ (by omega)
    rw [Nat.pow_succ, Nat.mul_comm (B ^ i) B]
    omega
/-- by the rests of the unit and the weight, and no more figures than rests -/
theorem rch_few (hB : 2 ≤ B) (hd : 0 < d) {i : Nat} {q : Int × Int} : Rch B d f l (i + 1) q ↔ ∃ p, Rch B d f l i p ∧ ∃ x, x < min B d ∧ q = stepP d (((B ^ i : Nat) : Int) % d) (wt f l i % d) p x := by
  rw [rch_succ hB]
  constructor
  · rintro ⟨p, hp, x, hx, rfl⟩
    refine ⟨p, hp, x % d, ?_, (stepP_mod _ _ _ _).symm⟩
    have h1 := Nat.mod_lt x hd
    have h2 := Nat.mod_le x d
    omega
  · rintro ⟨p, hp, x, hx, rfl⟩
    refine ⟨p, hp, x, by omega, ?_⟩
    have h1 : x % d = x := Nat.mod_eq_of_lt (by omega)
    have h2 := stepP_mod (d := d) ((B ^ i : Nat) : Int) (wt f l i) p x
    rw [h1] at h2
    exact h2
theorem rch_mono (hB : 2 ≤ B) {i : Nat} {q : Int × Int} (h : Rch B d f l i q) : Rch B d f l (i + 1) q := by
  obtain ⟨n, hn, rfl⟩ := h
  refine ⟨n, ?_, ?_⟩
  · rw [Nat.pow_succ]
    exact Nat.lt_of_lt_of_le hn (Nat.le_mul_of_pos_right _ (by omega))
  · unfold rests
    rw [ttl_up hB hn (i + 1) (by omega)]
theorem rch_le (hB : 2 ≤ B) {i : Nat} {q : Int × Int} (h : Rch B d f l i q) : ∀ j, i ≤ j → Rch B d f l j q
  | 0, e => by rw [← Nat.le_zero.mp e]; exact h
  | j + 1, e => by
    by_cases c : i = j + 1
    · rw [← c]; exact h
    · exact rch_mono hB (rch_le hB h j (by omega))
theorem rch_bd (hd : 0 < d) {i : Nat} {q : Int × Int} (h : Rch B d f l i q) : (0 ≤ q.1 ∧ q.1 < d) ∧ (0 ≤ q.2 ∧ q.2 < d) := by
  obtain ⟨n, hn, rfl⟩ := h
  unfold rests
  exact ⟨⟨Int.emod_nonneg _ (by omega), Int.emod_lt_of_pos _ (by omega)⟩, ⟨Int.emod_nonneg _ (by omega), Int.emod_lt_of_pos _ (by omega)⟩⟩
/-- just one of both is a multiple -/
def bad (q : Int × Int) : Bool := decide (q.1 = 0) != decide (q.2 = 0)
/-- a number that fails -/
def badN (B d : Nat) (f l : List Int) (n : Nat) : Bool := bad (rests B d f l n n)
theorem rests_at (hB : 2 ≤ B) {n i : Nat} (h : n < B ^ i) : rests B d f l n n = rests B d f l i n := by
  unfold rests
  congr 2
  by_cases c : i ≤ n
  · exact ttl_up hB h n c
  · exact (ttl_up hB (lt_pow_self hB n) i (by omega)).symm
/-- where no more come in so many steps, none come ever -/
theorem rch_closed (hB : 2 ≤ B) {n a : Nat} (hl : 0 < l.length) (po : PowOf B d n a) {j : Nat} (h : ∀ q, Rch B d f l (j + lookN f l n a) q → Rch B d f l j q) : ∀ m q, Rch B d f l m q → Rch B d f l (j + lookN f l n a) q := by
  have hL : 0 < Nat.lcm (n - a) l.length := Nat.lcm_pos (by have := po.lt; omega) hl
  have eL : lookN f l n a = max a f.length + Nat.lcm (n - a) l.length := rfl
  obtain ⟨q1, e1⟩ := Nat.dvd_lcm_left (n - a) l.length
  obtain ⟨q2, e2⟩ := Nat.dvd_lcm_right (n - a) l.length
  have per : ∀ t i, max a f.length ≤ i → ((B ^ (i + t * Nat.lcm (n - a) l.length) : Nat) : Int) % d = ((B ^ i : Nat) : Int) % d ∧ wt f l (i + t * Nat.lcm (n - a) l.length) = wt f l i := fun t i hi => by
    constructor
    · have z := pw_ring (Nat.le_of_lt po.lt) po.again (t * q1) i (by omega)
      rw [pw_pow, pw_pow, Nat.mul_assoc, Nat.mul_comm q1, ← e1] at z
      rw [← Int.natCast_emod, ← Int.natCast_emod, z]
    · rw [e2, Nat.mul_comm l.length, ← Nat.mul_assoc]
      exact wt_ring (t * q2) (by omega)
  generalize hk : j + lookN f l n a = k at *
  generalize Nat.lcm (n - a) l.length = L at *
  have flat : ∀ i, j ≤ i → i ≤ k → ∀ q, Rch B d f l k q → Rch B d f l i q := fun i h1 h2 q g => rch_le hB (h q g) i h1
  have far : ∀ m q, k ≤ m → Rch B d f l m q → Rch B d f l k q := by
    intro m
    induction m with
    | zero => intro q hm g; rw [Nat.le_zero.mp hm]; exact g
    | succ m ih =>
      intro q hm g
      by_cases c : k = m + 1
      · rw [c]; exact g
      · by_cases hd : d = 0
        · subst hd
          rw [rch_succ hB] at g
          obtain ⟨p, hp, x, hx, rfl⟩ := g
          exfalso
          have := po.le (d := 0)
          have z := po.dis
          have lt := po.lt
          have w : ∀ i, pw B 0 i = B ^ i := fun i => by rw [pw_pow, Nat.mod_zero]
          have e := po.again
          rw [w, w] at e
          have := Nat.pow_lt_pow_right (a := B) (by omega) lt
          omega
        · rw [rch_few hB (by omega)] at g
          obtain ⟨p, hp, x, hx, rfl⟩ := g
          have hp := ih p (by omega) hp
          have r0 := Nat.mod_lt (m - (j + max a f.length)) hL
          have dm := Nat.mod_add_div (m - (j + max a f.length)) L
          have em : m = (j + max a f.length + (m - (j + max a f.length)) % L) + (m - (j + max a f.length)) / L * L := by
            rw [Nat.mul_comm] at dm
            omega
          generalize (m - (j + max a f.length)) % L = r at *
          generalize (m - (j + max a f.length)) / L = t at *
          obtain ⟨p1, p2⟩ := per t (j + max a f.length + r) (by omega)
          rw [← em] at p1 p2
          rw [p1, p2]
          refine rch_le hB (i := j + max a f.length + r + 1) ?_ k (by omega)
          rw [rch_few hB (by omega)]
          exact ⟨p, flat _ (by omega) (by omega) p hp, x, hx, rfl⟩
  intro m q g
  by_cases c : k ≤ m
  · exact far m q c g
  · exact rch_le hB g k (by omega)
/-- no number fails where all pairs were seen and none is bad -/
theorem none_bad (hB : 2 ≤ B) {k : Nat} (h : ∀ m q, Rch B d f l m q → Rch B d f l k q) (g : ∀ q, Rch B d f l k q → bad q = false) (n : Nat) : badN B d f l n = false :=
  g _ (h n _ ⟨n, lt_pow_self hB n, rfl⟩)
theorem badN_rch (hB : 2 ≤ B) {n i : Nat} (h : n < B ^ i) : badN B d f l n = bad (rests B d f l i n) := by unfold badN; rw [rests_at hB h]
/-- just one of both is a multiple, with some number of i blocks added -/
theorem can_bad (hB : 2 ≤ B) {g i k : Nat} (hik : i ≤ k) (hg : g * B ^ i + B ^ i ≤ B ^ k) :
    (∃ q, Rch B d f l i q ∧ bad ((((g * B ^ i : Nat) : Int) + q.1) % d, (ttl B f l (g * B ^ i) k + q.2) % d) = true) ↔ ∃ m, m < B ^ i ∧ badN B d f l (g * B ^ i + m) = true := by
  have one : ∀ m, m < B ^ i → badN B d f l (g * B ^ i + m) = bad ((((g * B ^ i : Nat) : Int) + (rests B d f l i m).1) % d, (ttl B f l (g * B ^ i) k + (rests B d f l i m).2) % d) := fun m hm => by
    rw [badN_rch hB (i := k) (by omega)]
    unfold rests
    rw [Nat.add_comm (g * B ^ i) m, ttl_add hB hm k hik, ttl_up hB hm k hik]
    simp only
    rw [Int.add_emod_emod, Int.add_emod_emod, Int.natCast_add, Int.add_comm (m : Int)]
  constructor
  · rintro ⟨q, ⟨m, hm, rfl⟩, h⟩
    exact ⟨m, hm, by rw [one m hm]; exact h⟩
  · rintro ⟨m, hm, h⟩
    rw [one m hm] at h
    exact ⟨_, ⟨m, hm, rfl⟩, h⟩
end
end R
namespace R
section
variable {B d : Nat} {f l : List Int}
/-- the rest is not kept -/
def unlN (B d : Nat) (f l : List Int) (m : Nat) : Bool := !decide ((m : Int) % d = ttl B f l m m % d)
theorem keep_low {i : Nat} (h : ∀ j, j < i → badP B d f l j = false) (m : Nat) : ((m % B ^ i : Nat) : Int) % d = ttl B f l m i % d := by
  induction i with
  | zero => rw [Nat.pow_zero, Nat.mod_one]; simp [ttl]
  | succ i ih =>
    have q := ih fun j hj => h j (by omega)
    have z := h i (by omega)
    unfold badP at z
    have z : (((B ^ i : Nat) : Int) - wt f l i) % d = 0 := by simpa using z
    have z2 : ((B ^ i : Nat) : Int) % d = wt f l i % d := Int.emod_eq_emod_iff_emod_sub_eq_zero.mpr z
    rw [Nat.mod_pow_succ, ttl, Int.natCast_add, Int.natCast_mul, Int.add_emod, Int.add_emod (ttl B f l m i), q, Int.mul_emod ((B ^ i : Nat) : Int), z2, ← Int.mul_emod]
theorem keep_lt (hB : 2 ≤ B) {i m : Nat} (h : ∀ j, j < i → badP B d f l j = false) (hm : m < B ^ i) : unlN B d f l m = false := by
  have q := keep_low h m
  rw [Nat.mod_eq_of_lt hm] at q
  have e : ttl B f l m m = ttl B f l m i := by
    by_cases c : i ≤ m
    · exact ttl_up hB hm m c
    · exact (ttl_up hB (lt_pow_self hB m) i (by omega)).symm
  unfold unlN
  rw [e, q]
  simp
theorem unl_fst (hB : 2 ≤ B) : ∀ {r : Option Nat}, FstOf (badP B d f l) r → FstOf (unlN B d f l) (r.map fun i => B ^ i)
  | none, h => fun m => keep_lt hB (i := m) (fun j _ => h j) (lt_pow_self hB m)
  | some i, h => by
    refine ⟨?_, fun m hm => keep_lt hB (i := i) h.2 hm⟩
    have b := h.1
    unfold badP at b
    unfold unlN
    have e : ttl B f l (B ^ i) (B ^ i) = wt f l i := by
      have z := ttl_one (f := f) (l := l) hB (x := 1) (i := i) (by omega) (B ^ i) (lt_pow_self hB i)
      rw [Nat.one_mul] at z
      rw [z]; simp
    rw [e]
    have b : ¬ (((B ^ i : Nat) : Int) - wt f l i) % d = 0 := by simpa using b
    have n : ¬ ((B ^ i : Nat) : Int) % d = wt f l i % d := fun z => b (Int.emod_eq_emod_iff_emod_sub_eq_zero.mp z)
    simpa using n
theorem nS_div (B m : Nat) : ∀ i, nS (B : Int) (m : Int) i = ((m / B ^ i : Nat) : Int)
  | 0 => by rw [Nat.pow_zero, Nat.div_one]; rfl
  | i + 1 => by
    show nS (B : Int) (m : Int) i / (B : Int) = _
    rw [nS_div B m i, ← Int.natCast_ediv, Nat.div_div_eq_div_mul, Nat.pow_succ]
theorem sS_ttl (B m : Nat) (f l : List Int) : ∀ i, sS f l (B : Int) (m : Int) i = ttl B f l m i
  | 0 => rfl
  | i + 1 => by
    show sS f l (B : Int) (m : Int) i + wt f l i * (nS (B : Int) (m : Int) i % (B : Int)) = _
    rw [sS_ttl B m f l i, nS_div, ← Int.natCast_emod]; rfl
theorem totR_ttl (hB : 2 ≤ B) {m : Nat} {r : Int} (h : totR f l (B : Int) (m : Int) r) : r = ttl B f l m m := by
  obtain ⟨i, h1, _, rfl⟩ := h
  rw [nS_div] at h1
  have hm : m < B ^ i := by
    by_cases c : m < B ^ i
    · exact c
    · have := Nat.div_pos (Nat.le_of_not_lt c) (Nat.pow_pos (n := i) (by omega : 0 < B))
      omega
  rw [sS_ttl]
  by_cases c : i ≤ m
  · exact (ttl_up hB hm m c).symm
  · exact ttl_up hB (lt_pow_self hB m) i (by omega)
theorem badN_is (m : Nat) : badN B d f l m = (decide ((m : Int) % d = 0) != decide (ttl B f l m m % d = 0)) := rfl
/-- a number that fails is not less than the first one -/
theorem FstOf.ge {p : Nat → Bool} {r : Option Nat} {m : Nat} (h : FstOf p r) (e : p m = true) : ∃ x, r = some x ∧ x ≤ m := by
  cases r with
  | none => have := h m; rw [e] at this; cases this
  | some x =>
    refine ⟨x, rfl, ?_⟩
    by_cases c : m < x
    · have := h.2 m c; rw [e] at this; cases this
    · omega
end
end R

/-! ## dicts whose keys are pairs of ints, all their values True -/
namespace R
open PySem PySem.Spec PyProof.Rows L2
open PySem.W (Frag)
section
variable {X : Cx} {tk tv : TE}
/-- {(a, b): v} -/
def tDispT (tk tv : TE) : TE := fun σ H Q => ∀ p, H p = none → tk σ (upd H p (.dT [])) fun x H1 => tv σ H1 fun y H2 => ∃ q ks, x = .ref q ∧ H2 p = some (.dT []) ∧ H2 q = some (.tup (ks.map kV)) ∧ Q (.ref p) (upd H2 p (.dT [(ks, y)]))
theorem pe_disp1T {k v : Expr} {pos : Pos} (hu : X.A.units + 1 < cLine) (hk : PE X k tk) (hv : PE X v tv) : PE X (.Dict [some k] [v] pos) (tDispT tk tv) := by
  refine ⟨fun pins s σ H Q I q => ?_⟩
  have hn := I.hok.fresh (Nat.le_refl s.heap.objs.size)
  have I1 := I.laid (a := s.heap.objs.size) (o := .dT []) (h' := s.heap.push { cls := .type "dict", data := .dict #[] }) (t' := s.toks) (fun _ _ q => Heap.get?_push_of_some _ q) (Nat.le_refl _) (dt_empty s.heap I.big)
  have h : PPs X pos [some k] [v] [(tk, tv)] := pps_cons hk hv pps_nil
  have len2 : (pairTrees [some k] [v] X.env pos).length = 1 := pairTrees_length [some k] [v] X.env pos rfl rfl
  rw [arm_eval_Dict, zip_pairTrees [some k] [v] X.env pos rfl rfl, dictDisplay_pairs (pairTrees [some k] [v] X.env pos) (fun z => by rw [z] at len2; cases len2) (by omega)]
  refine wpAny_bind (wpAny_standAt (wpAny_bind ?_))
  have room : (tupleKind (mixKind X.prog X.w)).room X.A := show X.A.units < cLine by omega
  refine wpAny_subDictH (knd := tupleKind (mixKind X.prog X.w)) room (by omega) (thn (h.run pins _ σ _ (fun ps H2 => match ps with
    | [(x, y)] => ∃ q ks, x = .ref q ∧ H2 s.heap.objs.size = some (.dT []) ∧ H2 q = some (.tup (ks.map kV)) ∧ Q (.ref s.heap.objs.size) (upd H2 s.heap.objs.size (.dT [(ks, y)]))
    | _ => False) I1 (q _ hn)) fun ws s2 ⟨ps, H2, I2, rel, post⟩ => ?_)
  match ps, rel, post with
  | [(x, y)], rel, ⟨b, ks, ex, hp, hq, fin⟩ =>
    subst ex
    cases rel with
    | @cons a0 wk as0 bs0 r0 r1 =>
      cases r1
      obtain ⟨u, w⟩ := wk
      obtain ⟨ru, rw'⟩ := r0
      obtain rfl : u = Value.ref b := ru
      obtain ⟨z, hd, xs, kt, dd⟩ := dt_of I2.hok hp
      cases kt
      refine ⟨[(ks, b, w)], ⟨rfl, rfl, key_of I2.hok hq, trivial⟩, dd, fun h' tk' dd' hs => wpAny_pure ?_⟩
      obtain ⟨o, es, ep, h1, h2, h3, h4, _, h5⟩ := dd'
      have J := d_write (t' := tk') (ob := .dT [(ks, y)]) I2 (by rw [hp]; exact True.intro) hs ⟨o, h1⟩ ⟨Nat.le_trans (show 1 ≤ 1000 by omega) (by decide), hd, [(ks, b, w)], .cons ⟨rfl, ?_, rw'⟩ .nil, o, es, ep, h1, h2, h3, h4, h5⟩
      · exact ⟨.ref s.heap.objs.size, _, J, rfl, fin⟩
      · rw [upd_ne (ne_of hq hp (fun z => nomatch z))]
        exact hq
end
/-! the pairs as keys -/
def ent (p : Int × Int) : List Key × V := ([.inl p.1, .inl p.2], .bl true)
def PDS (ps : List (Int × Int)) : HO := .dT (ps.map ent)
def addP (ps : List (Int × Int)) (q : Int × Int) : List (Int × Int) := if q ∈ ps then ps else ps ++ [q]
theorem ent_key {p q : Int × Int} : (ent p).1 = (ent q).1 ↔ p = q := by
  obtain ⟨a, b⟩ := p
  obtain ⟨c, d⟩ := q
  unfold ent
  simp
theorem val_ent (ps : List (Int × Int)) (q : Int × Int) : (valV (ps.map ent) (ent q).1).isSome = decide (q ∈ ps) := by
  rw [← valV_any, List.any_map, Bool.eq_iff_iff, List.any_eq_true, decide_eq_true_iff]
  constructor
  · rintro ⟨x, hx, e⟩
    have e : (ent x).1 = (ent q).1 := of_decide_eq_true e
    rw [ent_key] at e
    rw [← e]; exact hx
  · intro h
    exact ⟨q, h, decide_eq_true rfl⟩
theorem put_ent (ps : List (Int × Int)) (q : Int × Int) : putK (ps.map ent) (ent q).1 (.bl true) = (addP ps q).map ent := by
  unfold putK addP
  rw [valV_any, val_ent]
  by_cases h : q ∈ ps
  · rw [if_pos (decide_eq_true h), if_pos h, List.map_map]
    refine List.map_congr_left fun p _ => ?_
    show (if (ent p).1 = (ent q).1 then ((ent p).1, V.bl true) else ent p) = ent p
    split <;> rfl
  · rw [if_neg (by rw [decide_eq_true_iff]; exact h), if_neg h, List.map_append]
    rfl
theorem addP_mem {ps : List (Int × Int)} {q r : Int × Int} : r ∈ addP ps q ↔ r ∈ ps ∨ r = q := by
  unfold addP
  split
  · rename_i h
    constructor
    · exact .inl
    · rintro (h' | rfl)
      · exact h'
      · exact h
  · rw [List.mem_append, List.mem_singleton]
theorem addP_nodup {ps : List (Int × Int)} {q : Int × Int} (h : ps.Nodup) : (addP ps q).Nodup := by
  unfold addP
  split
  · exact h
  · rename_i n
    exact List.nodup_append.mpr ⟨h, by simp, fun a ha b hb e => n (by rw [List.mem_singleton] at hb; rw [← hb, ← e]; exact ha)⟩
theorem addP_len (ps : List (Int × Int)) (q : Int × Int) : (addP ps q).length ≤ ps.length + 1 := by
  unfold addP
  split
  · omega
  · rw [List.length_append]; simp
section
variable {B H : Hp} {Lw : List (Addr × HO)} {a b : Addr} {ps : List (Int × Int)} {q : Int × Int} {σ : L2.St} {D : Ends} {Q : VK}
theorem a_dput {td ty tv : TE} (h : tv σ H fun v H1 => td σ H1 fun x H2 => ty σ H2 fun y H3 => ∃ a H4, x = .ref a ∧ DPut H3 a y v H4 ∧ D.nx σ H4) : sDPut td ty tv D σ H := h
/-- d[(i, j)] = True -/
theorem a_putP (O : Own B Lw H) (i : Nat) (hi : Lw[i]? = some (a, PDS ps)) (hb : H b = some (.tup [.int q.1, .int q.2])) (hl : ps.length ≤ 1000000) (P : Hp → Prop) (h : ∀ H', Own B (Lw.set i (a, PDS (addP ps q))) H' → P H') : ∃ c H4, V.ref a = .ref c ∧ DPut H c (.ref b) (.bl true) H4 ∧ P H4 := by
  refine ⟨a, _, rfl, DPut.t (kvs := ps.map ent) (k := (ent q).1) (O.get i hi) hb (Nat.lt_of_le_of_lt (show (ps.map ent).length ≤ 1000000 by rw [List.length_map]; exact hl) (by decide)), ?_⟩
  rw [put_ent]
  exact h _ (O.put i hi)
/-- (i, j) in d -/
theorem a_inP (ha : Rd H a (PDS ps)) (hb : H b = some (.tup [.int q.1, .int q.2])) {P : V → Hp → Prop} (h : P (.bl (decide (q ∈ ps))) H) : ∃ c o, V.ref a = .ref c ∧ DGet H c (.ref b) o ∧ P (.bl o.isSome) H :=
  ⟨a, _, rfl, .inr ⟨ps.map ent, (ent q).1, b, ha, rfl, hb, rfl⟩, by rw [val_ent]; exact h⟩
theorem a_ninP (ha : Rd H a (PDS ps)) (hb : H b = some (.tup [.int q.1, .int q.2])) {P : V → Hp → Prop} (h : P (.bl (!decide (q ∈ ps))) H) : ∃ c o, V.ref a = .ref c ∧ DGet H c (.ref b) o ∧ P (.bl (!o.isSome)) H :=
  ⟨a, _, rfl, .inr ⟨ps.map ent, (ent q).1, b, ha, rfl, hb, rfl⟩, by rw [val_ent]; exact h⟩
theorem a_lenP (ha : H a = some (PDS ps)) (h : Q (.int (ps.length : Nat)) H) : L2.rLenT [.ref a] H Q := ⟨a, ps.map ent, rfl, ha, by rw [List.length_map]; exact h⟩
/-- one thing is taken out of the base, to be locked -/
theorem Own.take {o : HO} (O : Own B Lw H) (hB : B a = some o) : Own (del1 B a) ((a, o) :: Lw) H := by
  refine ⟨fun b v e => O.st b v (by unfold del1 at e; split at e; · cases e
                                    · exact e), fun q hq => ?_, fun q hq => ?_, ?_⟩
  · rcases List.mem_cons.mp hq with rfl | hq
    · exact O.st _ _ hB
    · exact O.ow q hq
  · rcases List.mem_cons.mp hq with rfl | hq
    · unfold del1; rw [if_pos rfl]
    · unfold del1
      split
      · rfl
      · exact O.no q hq
  · rw [List.map_cons, List.nodup_cons]
    refine ⟨fun z => ?_, O.nd⟩
    obtain ⟨q, hq, e⟩ := List.mem_map.mp z
    have n := O.no q hq
    rw [e, hB] at n
    cases n
/-- and put back -/
theorem Own.back {o u : HO} {H' : Hp} (O : Own (del1 B a) ((a, u) :: Lw) H') (hB : B a = some o) : Own B Lw (upd H' a o) := by
  have O1 := (Own.put (u := o) O 0 rfl : Own (del1 B a) ((a, o) :: Lw) (upd H' a o)).fix
  have e : upd (del1 B a) a o = B := by
    funext b
    by_cases z : b = a
    · subst z; rw [upd_same, hB]
    · rw [upd_ne z, del1_ne z]
  rw [e] at O1
  exact O1
end
end R
namespace R
open PySem PySem.Spec PyProof.Rows L2
open PySem.W (Frag)
section
variable {B H : Hp} {Lw : List (Addr × HO)} {d : Addr} {ps : List (Int × Int)} {σ : L2.St} {D : Ends} {Q : VK}
theorem a_lockE {t : TE} (O : Own B Lw H) (hB : B d = some (PDS ps)) (h : ∀ od H1, Own (del1 B d) ((d, .frz od (PDS ps)) :: Lw) H1 → t σ H1 fun v H' => H' d = some (.frz od (PDS ps)) ∧ Q v (upd H' d (PDS ps))) : tLockE t σ H Q :=
  ⟨d, _, O.st _ _ hB, trivial, fun od => h od _ (Own.put (O.take hB) 0 rfl)⟩
theorem a_lockS {t : TS} (O : Own B Lw H) (hB : B d = some (PDS ps)) (h : ∀ od H1, Own (del1 B d) ((d, .frz od (PDS ps)) :: Lw) H1 →
    t ⟨fun σ' H' => H' d = some (.frz od (PDS ps)) ∧ D.nx σ' (upd H' d (PDS ps)), fun v H' => H' d = some (.frz od (PDS ps)) ∧ D.rt v (upd H' d (PDS ps)), fun σ' H' => H' d = some (.frz od (PDS ps)) ∧ D.bk σ' (upd H' d (PDS ps)), fun σ' H' => H' d = some (.frz od (PDS ps)) ∧ D.ct σ' (upd H' d (PDS ps))⟩ σ H1) : tLock t D σ H :=
  ⟨d, _, O.st _ _ hB, trivial, fun od => h od _ (Own.put (O.take hB) 0 rfl)⟩
/-- the i-th key of a pair dict as a tuple -/
theorem key_at {H : Hp} {x : V} {H' : Hp} {i : Nat} (h : H' = H ∧ ∃ (k : List Key) (v : V) (q : Addr), (ps.map ent)[i]? = some (k, v) ∧ x = .ref q ∧ H q = some (.tup (k.map kV))) : H' = H ∧ ∃ (il : i < ps.length) (q : Addr), x = .ref q ∧ H q = some (.tup [.int ps[i].1, .int ps[i].2]) := by
  obtain ⟨e, k, v, q, h1, h2, h3⟩ := h
  rw [List.getElem?_map] at h1
  obtain ⟨p, hp, ep⟩ := Option.map_eq_some_iff.mp h1
  obtain ⟨il, e2⟩ := List.getElem?_eq_some_iff.mp hp
  refine ⟨e, il, q, h2, ?_⟩
  rw [h3, e2]
  cases ep
  rfl
end
/-- all pairs of rests: few -/
theorem pairs_few {d : Nat} {ps : List (Int × Int)} (nd : ps.Nodup) (h : ∀ q ∈ ps, (0 ≤ q.1 ∧ q.1 < d) ∧ (0 ≤ q.2 ∧ q.2 < d)) : ps.length ≤ d * d := by
  have key : ∀ q, q ∈ ps → 0 ≤ q.1 * d + q.2 ∧ q.1 * d + q.2 < ((d * d : Nat) : Int) := fun q hq => by
    obtain ⟨⟨a1, a2⟩, b1, b2⟩ := h q hq
    have m1 : 0 ≤ q.1 * (d : Int) := Int.mul_nonneg a1 (by omega)
    have m2 : q.1 * (d : Int) ≤ ((d : Int) - 1) * d := Int.mul_le_mul_of_nonneg_right (by omega) (by omega)
    rw [Int.sub_mul, Int.one_mul] at m2
    rw [Int.natCast_mul]
    omega
  have nd2 : (ps.map fun q => q.1 * (d : Int) + q.2).Nodup := by
    rw [List.nodup_iff_pairwise_ne, List.pairwise_map]
    rw [List.nodup_iff_pairwise_ne] at nd
    refine nd.imp_of_mem ?_
    intro p q hp hq ne e
    obtain ⟨⟨a1, a2⟩, b1, b2⟩ := h p hp
    obtain ⟨⟨c1, c2⟩, e1, e2⟩ := h q hq
    apply ne
    have f1 : (p.1 * (d : Int) + p.2) / d = p.1 := by rw [Int.add_comm, Int.add_mul_ediv_right _ _ (by omega), Int.ediv_eq_zero_of_lt b1 b2, Int.zero_add]
    have f2 : (q.1 * (d : Int) + q.2) / d = q.1 := by rw [Int.add_comm, Int.add_mul_ediv_right _ _ (by omega), Int.ediv_eq_zero_of_lt e1 e2, Int.zero_add]
    have g1 : p.1 = q.1 := by rw [← f1, e, f2]
    have g2 : p.2 = q.2 := by rw [g1] at e; omega
    exact Prod.ext g1 g2
  have q := nodup_le (D := (List.range (d * d)).map fun (j : Nat) => (j : Int)) nd2 fun x hx => by
    obtain ⟨p, hp, rfl⟩ := List.mem_map.mp hx
    have k := key p hp
    exact List.mem_map.mpr ⟨(p.1 * (d : Int) + p.2).toNat, List.mem_range.mpr (by omega), by omega⟩
  rw [List.length_map, List.length_map, List.length_range] at q
  exact q
/-- a layer -/
def LayOk (B d : Nat) (f l : List Int) (i : Nat) (ps : List (Int × Int)) : Prop := ps.Nodup ∧ ∀ q, q ∈ ps ↔ Rch B d f l i q
theorem LayOk.few {B d : Nat} {f l : List Int} {i : Nat} {ps : List (Int × Int)} (hd : 0 < d) (h : LayOk B d f l i ps) : ps.length ≤ d * d := pairs_few h.1 fun q hq => rch_bd hd ((h.2 q).mp hq)
theorem nodup_leG {α : Type} [DecidableEq α] : ∀ {l D : List α}, l.Nodup → (∀ x, x ∈ l → x ∈ D) → l.length ≤ D.length
  | [], _, _, _ => Nat.zero_le _
  | x :: l, D, nd, h => by
    rw [List.nodup_cons] at nd
    have hx := h x List.mem_cons_self
    have q := nodup_leG (l := l) (D := D.erase x) nd.2 fun y hy => (List.mem_erase_of_ne (fun z : y = x => nd.1 (by rw [← z]; exact hy))).mpr (h y (List.mem_cons_of_mem _ hy))
    rw [List.length_erase_of_mem hx] at q
    have := List.length_pos_of_mem hx
    rw [List.length_cons]; omega
/-- a nodup list within another one, of the same length: the same members -/
theorem nodup_full {α : Type} [DecidableEq α] {l D : List α} (nd : l.Nodup) (h : ∀ x, x ∈ l → x ∈ D) (e : D.length ≤ l.length) (x : α) (hx : x ∈ D) : x ∈ l := by
  by_cases c : x ∈ l
  · exact c
  · exfalso
    have q := nodup_leG (l := x :: l) (D := D) (List.nodup_cons.mpr ⟨c, nd⟩) fun y hy => by
      rcases List.mem_cons.mp hy with rfl | hy
      · exact hx
      · exact h y hy
    rw [List.length_cons] at q
    omega
end R
namespace R
open PySem PySem.Spec PyProof.Rows L2
theorem a_iKeys {td : TE} {σ : L2.St} {H : Hp} {RR : It → Hp → Prop} (h : td σ H fun x H1 => ∃ d o, x = .ref d ∧ ((∃ kvs, H1 d = some (.frz o (.dK kvs)) ∧ RR (Itk d o kvs) H1) ∨ ∃ kvs, H1 d = some (.frz o (.dT kvs)) ∧ RR (Itkt d o kvs) H1)) : iKeys td σ H RR := h
end R

/-! ## dict(d): a copy of a dict whose keys are pairs of small ints -/
namespace R
open PySem PySem.Spec PyProof.Rows L2
open PySem.W (Frag)
section
variable {prog : Program} {w : World} {K : Type} [DecidableEq K] {knd : HeapKind prog w K} {A : Around} {E : Value → Shared → Prop} {s : Shared}
theorem call_dict_dictH (st : knd.Stays) {o : Addr} {more : List (K × Addr × Value)} {Q : Value → Shared → Prop} (hu : knd.room A.in1.in1) (hoS : (o == sysModules) = false) (ho : s.heap.DictOfH knd o more) (hap : (more.map fun x => knd.hash x.1).Nodup) (hsz : more.length ≤ sizeLine)
    (h : ∀ h', h'.DictOfH knd s.heap.objs.size more → Heap.SameBut s.heap.objs.size (s.heap.push { cls := .type "dict", data := .dict #[] }) h' → Q (.ref s.heap.objs.size) { s with heap := h' }) :
    wpAny (model prog w) A (call (.type "dict") [.ref o]) Q E s := by
  refine callType_codes (Q₁ := fun obj s₁ => obj = .ref s.heap.objs.size ∧ s₁ = { s with heap := s.heap.push { cls := .type "dict", data := .dict #[] } }) F.kt_called_dict (F.kt_typeCall_dict_1 _) F.entry_dict_init (kt_code_dict_new _ ⟨rfl, rfl⟩) ?_
  rintro obj s₁ ⟨rfl, rfl⟩
  have hnew : (s.heap.push { cls := .type "dict", data := .dict #[] }).DictOfH knd s.heap.objs.size [] := Heap.DictOfH.new s.heap
  have his : ∀ x ∈ more, knd.is s.heap x.1 x.2.1 := by
    obtain ⟨_, _, _, _, _, _, _, his, _⟩ := id ho
    exact his
  have ho' : (s.heap.push { cls := .type "dict", data := .dict #[] }).DictOfH knd o more := ho.at' (fun _ e => Heap.get?_push_of_some _ e) fun y hy => st.stays (fun b o _ _ e _ => Heap.get?_push_of_some _ e) (his y hy)
  have hdo : s.heap.objs.size ≠ o := fun e => absurd ho.lt_size (by rw [e]; exact Nat.lt_irrefl _)
  refine ⟨hnew.typeIs, F.args_dict_init_2 _ _, ?_⟩
  unfold Builtin.«dict.__init__»
  refine wpAny_bind ?_
  unfold Builtin.Dict.selfAndRest
  refine wpAny_bind (wpAny_notOrdered_dict hnew.typeIs ?_)
  show wpAny _ _ (pure (s.heap.objs.size, [Value.ref o])) _ _ _
  refine wpAny_pure ?_
  refine updateFrom_dictH (A := A.in1) .none hu hdo hoS hnew ho' (.inr ⟨keyed_apart (s := { s with heap := s.heap.push { cls := .type "dict", data := .dict #[] } }) st ho', hap⟩) (by simpa using hsz) fun h' hd' _ hs' => ?_
  rw [storedAllH_nil_of_nodup more ho.nodup] at hd'
  exact ⟨rfl, h h' hd' hs'⟩
end
/-- the hash of the i-th pair of ints less than 12 -/
def hsP (i : Nat) : Int := reduceHash (Builtin.Tuple.tupleHashOf [hashInt ((i / 12 : Nat) : Int), hashInt ((i % 12 : Nat) : Int)])
/-- these hashes by 706: all unlike -/
def hsM : List Nat := [219, 224, 598, 63, 68, 372, 613, 211, 216, 520, 55, 60, 414, 552, 17, 258, 562, 567, 165, 406, 411, 9, 14, 554, 28, 269, 573, 578, 176, 347, 588, 20, 191, 329, 30, 168, 461, 466, 64, 305, 609, 614, 79, 453, 624, 56, 227, 601, 241, 246, 80, 85, 90, 394, 635, 233, 238, 542, 77, 82, 436, 441, 275, 280, 584, 589, 423, 428, 433, 31, 36, 576, 163, 301, 472, 477, 311, 316, 620, 625, 160, 464, 469, 67, 483, 654, 86, 327, 631, 96, 101, 475, 646, 78, 249, 623, 210, 215, 519, 690, 358, 363, 534, 672, 373, 511, 682, 114, 696, 701, 299, 540, 545, 143, 148, 688, 693, 291, 296, 537, 185, 190, 494, 29, 333, 338, 642, 647, 182, 486, 491, 89, 505, 676, 344, 515, 653, 118, 123, 497, 668, 266, 271, 512]
theorem hsP_mod : (List.range 144).map (fun i => (hsP i % 706).toNat) = hsM := by decide +kernel
theorem hsM_nodup : hsM.Nodup := by decide +kernel
theorem hsP_nodup : ((List.range 144).map hsP).Nodup := by
  have z := hsM_nodup
  rw [← hsP_mod, List.nodup_iff_pairwise_ne, List.pairwise_map] at z
  rw [List.nodup_iff_pairwise_ne, List.pairwise_map]
  exact z.imp fun h e => h (by rw [e])
theorem hsP_inj {i j : Nat} (hi : i < 144) (hj : j < 144) (e : hsP i = hsP j) : i = j := by
  have n := List.nodup_iff_pairwise_ne.mp hsP_nodup
  rw [List.pairwise_map, List.pairwise_iff_getElem] at n
  have key : ∀ i j, i < j → j < 144 → hsP i ≠ hsP j := fun i j h1 h2 => by
    have z := n i j (by rw [List.length_range]; omega) (by rw [List.length_range]; omega) h1
    rw [List.getElem_range, List.getElem_range] at z
    exact z
  rcases Nat.lt_trichotomy i j with c | c | c
  · exact absurd e (key i j c hj)
  · exact c
  · exact absurd e.symm (key j i c hi)
def Few (ps : List (Int × Int)) : Prop := ∀ q ∈ ps, (0 ≤ q.1 ∧ q.1 < 12) ∧ (0 ≤ q.2 ∧ q.2 < 12)
theorem nodup_hash {g : List Key → Int} {ps : List (Int × Int)} (one : ∀ r : Int × Int, 0 ≤ r.1 → r.1 < 12 → 0 ≤ r.2 → r.2 < 12 → g (ent r).1 = hsP (r.1.toNat * 12 + r.2.toNat)) (nd : ps.Nodup) (hf : Few ps) : ((ps.map ent).map fun x => g x.1).Nodup := by
  rw [List.map_map, List.nodup_iff_pairwise_ne, List.pairwise_map]
  rw [List.nodup_iff_pairwise_ne] at nd
  refine nd.imp_of_mem ?_
  intro p q hp hq ne e
  obtain ⟨⟨a1, a2⟩, b1, b2⟩ := hf p hp
  obtain ⟨⟨c1, c2⟩, d1, d2⟩ := hf q hq
  have e : g (ent p).1 = g (ent q).1 := e
  rw [one p a1 a2 b1 b2, one q c1 c2 d1 d2] at e
  have z := hsP_inj (by omega) (by omega) e
  exact ne (Prod.ext (by omega) (by omega))
def hs2 (l : List Int) : Int := reduceHash (Builtin.Tuple.tupleHashOf l)
theorem hs2_is {P : Program} {w : World} (ks : List Key) : (tupleKind (mixKind P w)).hash ks = hs2 (ks.map (keyH w)) := rfl
theorem hsP_is (i : Nat) : hsP i = hs2 [hashInt ((i / 12 : Nat) : Int), hashInt ((i % 12 : Nat) : Int)] := rfl
theorem ent_map {w : World} (r : Int × Int) : (ent r).1.map (keyH w) = [hashInt r.1, hashInt r.2] := rfl
theorem hash_ent {P : Program} {w : World} {ps : List (Int × Int)} (nd : ps.Nodup) (hf : Few ps) : ((ps.map ent).map fun x => (tupleKind (mixKind P w)).hash x.1).Nodup := by
  refine nodup_hash (g := (tupleKind (mixKind P w)).hash) (fun r h1 h2 h3 h4 => ?_) nd hf
  rw [hs2_is, hsP_is, ent_map]
  have e1 : (((r.1.toNat * 12 + r.2.toNat) / 12 : Nat) : Int) = r.1 := by omega
  have e2 : (((r.1.toNat * 12 + r.2.toNat) % 12 : Nat) : Int) = r.2 := by omega
  rw [e1, e2]
def rDupT : List V → Hp → VK → Prop := fun xs H Q => ∃ (p : Addr) (ps : List (Int × Int)), xs = [.ref p] ∧ H p = some (PDS ps) ∧ ps.Nodup ∧ Few ps ∧ ∀ r, H r = none → Q (.ref r) (upd H r (PDS ps))
theorem cr_dupT {X : Cx} (hu : X.A.units + 64 < cLine) : CallR X (.type "dict") rDupT := by
  intro pins s σ H vs us Q I r h
  obtain ⟨a, ps, rfl, ha, nd, hf, q⟩ := h
  rw [Vals.ref1 r]
  obtain ⟨z, hd, xs, kt, dd⟩ := dt_of I.hok ha
  have hx : xs.map (fun x => (tupleKind (mixKind X.prog X.w)).hash x.1) = (ps.map ent).map fun x => (tupleKind (mixKind X.prog X.w)).hash x.1 := by
    have gen : ∀ {l : List (List Key × V)} {m : List (List Key × Addr × Value)}, KT H l m → m.map (fun x => (tupleKind (mixKind X.prog X.w)).hash x.1) = l.map fun x => (tupleKind (mixKind X.prog X.w)).hash x.1 := by
      intro l m q
      induction q with
      | nil => rfl
      | @cons p q ps qs hq t ih => rw [List.map_cons, List.map_cons, ih, hq.1]
    exact gen kt
  have hl : (ps.map ent).length = xs.length := Paired.length kt
  have room : (tupleKind (mixKind X.prog X.w)).room X.A.in1.in1 := tupleKind_room_in1 (A := X.A.in1) (by show X.A.units + 1 + 1 < cLine; omega)
  refine call_dict_dictH tupleKind_stays room hd dd (by rw [hx]; exact hash_ent nd hf) (by rw [← hl]; exact z) fun h' dd' hs => ?_
  have hn := I.hok.fresh (Nat.le_refl s.heap.objs.size)
  obtain ⟨o, es, ep, h1, h2, h3, h4, _, h5⟩ := dd'
  have keep : ∀ b o, s.heap.get? b = some o → h'.get? b = some o := fun b o e => (hs.2 b (Nat.ne_of_lt (Heap.lt_size e))).trans (Heap.get?_push_of_some _ e)
  refine ⟨.ref _, _, I.laid (a := s.heap.objs.size) (o := PDS ps) (t' := s.toks) keep (Nat.le_refl _) ?_, rfl, q _ hn⟩
  refine ⟨z, beq_eq_false_iff_ne.mpr (Ne.symm (Nat.ne_of_lt I.big)), xs, kt.keeps fun b ys hb => ?_, o, es, ep, h1, h2, h3, h4, h5⟩
  rw [upd_ne (fun e => by rw [e, hn] at hb; cases hb)]
  exact hb
section
variable {B H : Hp} {Lw : List (Addr × HO)} {a : Addr} {ps : List (Int × Int)} {Q : VK}
theorem a_dupT (ha : H a = some (PDS ps)) (O : Own B Lw H) (nd : ps.Nodup) (hf : Few ps) (q : ∀ p H', Own B ((p, PDS ps) :: Lw) H' → Q (.ref p) H') : rDupT [V.ref a] H Q :=
  ⟨a, ps, rfl, ha, nd, hf, fun p hp => q p _ (O.new hp)⟩
end
end R

local macro_rules | `(tactic| walk_at "s") => `(tactic| first
  | with_reducible refine R.a_seq ?_ | with_reducible refine R.a_asg ?_ | with_reducible refine R.a_gname ?_ | ((with_reducible refine' R.a_var ?h1 ?h2); (case h1 => rfl)) | with_reducible refine R.a_c ?_
  | with_reducible refine R.a_op ?_ | with_reducible refine R.a_un ?_ | with_reducible refine R.a_neg ?_ | with_reducible refine R.a_drop ?_ | with_reducible refine R.a_ret ?_ | with_reducible refine R.a_retN ?_
  | with_reducible refine R.a_test ?_ | with_reducible refine R.a_tB ?_ | with_reducible refine R.a_bk ?_ | with_reducible refine R.a_and ?_ | with_reducible refine R.a_or ?_ | with_reducible refine R.a_not ?_
  | with_reducible refine R.a_andV ?_ | with_reducible refine R.a_orV ?_ | with_reducible refine R.a_notV ?_ | with_reducible refine R.a_bv ?_ | with_reducible refine R.a_ifE ?_
  | with_reducible refine R.a_nil ?_ | with_reducible refine R.a_cons ?_ | with_reducible refine R.a_tup ?_ | with_reducible refine R.a_lst ?_ | with_reducible refine R.a_cb ?_ | with_reducible refine R.a_call ?_ | with_reducible refine R.a_chain ?_
  | with_reducible refine R.a_sl ?_ | with_reducible refine R.a_npart ?_ | with_reducible refine R.a_part ?_ | with_reducible refine R.a_ik ?_ | with_reducible refine R.a_gsub ?_ | with_reducible refine R.a_bm ?_ | with_reducible refine R.a_bm0 ?_ | with_reducible refine R.a_par ?_ | with_reducible refine R.a_par2 ?_
  | with_reducible refine R.a_for ?_ | with_reducible refine R.a_rev ?_ | with_reducible refine R.a_iL ?_ | with_reducible refine R.a_iT ?_ | with_reducible refine R.a_enum ?_ | with_reducible refine R.a_lc ?_ | with_reducible refine R.a_rng1 ?_ | with_reducible refine R.a_rng2 ?_ | with_reducible refine R.a_next ?_ | with_reducible refine R.a_yes ?_ | with_reducible refine R.a_gcons ?_ | with_reducible refine R.a_gnil ?_
  | ((with_reducible refine R.a_rng1' ?h1 ?h2 ?h3); (case h1 => omega); (case h2 => omega)) | ((with_reducible refine R.a_rng2' ?h1 ?h2); (case h1 => omega))
  | with_reducible refine R.a_I0 ?_ | with_reducible refine R.a_eqI ?_ | with_reducible refine R.a_neI ?_ | with_reducible refine R.a_isN1 ?_ | with_reducible refine R.a_notN1 ?_
  | ((with_reducible refine R.a_isN0 ?h1 ?h2); (case h1 => (intro z; cases z))) | ((with_reducible refine R.a_notN0 ?h1 ?h2); (case h1 => (intro z; cases z)))
  | with_reducible refine R.a_isiI ?_ | with_reducible refine R.a_isiB ?_
  | ((with_reducible refine R.a_I ?h1 ?h2); (case h1 => first | omega | exact R.mx_l (by omega) (by omega) | exact R.mx_r (by omega) (by omega) | exact R.divW (by omega) (by omega)))
  | with_reducible refine R.a_tt ?_ | with_reducible refine R.a_ff ?_ | with_reducible refine R.a_nt ?_ | with_reducible refine R.a_nf ?_)
-- a test whose answer is known
local macro_rules | `(tactic| walk_at "k") => `(tactic| first
  | ((with_reducible refine R.a_itT ?h1 ?h2); (case h1 => first | assumption | omega)) | ((with_reducible refine R.a_itF ?h1 ?h2); (case h1 => first | assumption | omega))
  | ((with_reducible refine R.a_niT ?h1 ?h2); (case h1 => first | assumption | omega)) | ((with_reducible refine R.a_niF ?h1 ?h2); (case h1 => first | assumption | omega)))
local macro_rules | `(tactic| walk_at "k") => `(tactic| first
  | ((with_reducible refine R.a_cT ?h1 ?h2 ?h3); (case h1 => first | assumption | omega); (case h2 => first | assumption | omega))
  | ((with_reducible refine R.a_ncT ?h1 ?h2 ?h3); (case h1 => first | assumption | omega); (case h2 => first | assumption | omega)))
local macro_rules | `(tactic| walk_at "c") => `(tactic| fail)
local macro_rules | `(tactic| walk_at "sq") => `(tactic| first | assumption | (refine' R.Own.sq ?o 0 ?e; (case o => assumption); (case e => rfl)) | (refine' R.Own.sq ?o 1 ?e; (case o => assumption); (case e => rfl)) | (refine' R.Own.sq ?o 2 ?e; (case o => assumption); (case e => rfl)) | (refine' R.Own.sq ?o 3 ?e; (case o => assumption); (case e => rfl)) | (refine' R.Own.sq ?o 4 ?e; (case o => assumption); (case e => rfl)) | (refine' R.Own.sq ?o 5 ?e; (case o => assumption); (case e => rfl)) | (refine' R.Own.sq ?o 6 ?e; (case o => assumption); (case e => rfl)) | (refine' R.Own.sq ?o 7 ?e; (case o => assumption); (case e => rfl)) | (refine' R.Own.sq ?o 8 ?e; (case o => assumption); (case e => rfl)) | (refine' R.Own.sq ?o 9 ?e; (case o => assumption); (case e => rfl)) | (refine' R.Own.seq ?o ?e; (case o => assumption); (case e => assumption)))
local macro_rules | `(tactic| walk_at "tq") => `(tactic| first | assumption | (refine' R.Own.tq ?o 0 ?e; (case o => assumption); (case e => rfl)) | (refine' R.Own.tq ?o 1 ?e; (case o => assumption); (case e => rfl)) | (refine' R.Own.tq ?o 2 ?e; (case o => assumption); (case e => rfl)) | (refine' R.Own.tq ?o 3 ?e; (case o => assumption); (case e => rfl)) | (refine' R.Own.tq ?o 4 ?e; (case o => assumption); (case e => rfl)) | (refine' R.Own.tq ?o 5 ?e; (case o => assumption); (case e => rfl)) | (refine' R.Own.tq ?o 6 ?e; (case o => assumption); (case e => rfl)) | (refine' R.Own.tq ?o 7 ?e; (case o => assumption); (case e => rfl)) | (refine' R.Own.tq ?o 8 ?e; (case o => assumption); (case e => rfl)) | (refine' R.Own.tq ?o 9 ?e; (case o => assumption); (case e => rfl)) | (refine' R.Own.tup ?o ?e; (case o => assumption); (case e => assumption)))
local macro_rules | `(tactic| walk_at "c") => `(tactic| first
  | ((with_reducible refine' R.a_ixL ?s ?a ?q); (case s => walk_at "sq"); (case a => rfl))
  | ((with_reducible refine' R.a_ixT ?s ?a ?q); (case s => walk_at "tq"); (case a => rfl))
  | ((with_reducible refine' R.a_gtup ?k1 ?k2 ?k3); (case k1 => walk_at "tq"); (case k2 => rfl))
  | with_reducible refine R.a_int1 ?_ | with_reducible refine R.a_abs ?_
  | ((with_reducible refine' R.a_len ?k1 ?k2); (case k1 => first | (refine Or.inl ?_; walk_at "sq") | (refine Or.inr ?_; walk_at "tq")))
  | ((with_reducible refine' R.a_pow (k := 18) ?n ?k ?m ?q); (case n => rfl); (case k => decide); (case m => decide)) | ((with_reducible refine' R.a_pow (k := 40) ?n ?k ?m ?q); (case n => rfl); (case k => decide); (case m => decide)) | ((with_reducible refine' R.a_pow (k := 6) ?n ?k ?m ?q); (case n => rfl); (case k => decide); (case m => decide)) | ((with_reducible refine' R.a_pow (k := 20) ?n ?k ?m ?q); (case n => rfl); (case k => decide); (case m => decide)) | ((with_reducible refine' R.a_pow (k := 30) ?n ?k ?m ?q); (case n => rfl); (case k => decide); (case m => decide)) | ((with_reducible refine' R.a_pow (k := 39) ?n ?k ?m ?q); (case n => rfl); (case k => decide); (case m => decide))
  | ((with_reducible refine' R.a_setL ?k1 0 ?k2 ?k3 ?k4); (case k1 => assumption); (case k2 => rfl); (case k3 => rfl); intro H' O') | ((with_reducible refine' R.a_setL ?k1 1 ?k2 ?k3 ?k4); (case k1 => assumption); (case k2 => rfl); (case k3 => rfl); intro H' O') | ((with_reducible refine' R.a_setL ?k1 2 ?k2 ?k3 ?k4); (case k1 => assumption); (case k2 => rfl); (case k3 => rfl); intro H' O') | ((with_reducible refine' R.a_setL ?k1 3 ?k2 ?k3 ?k4); (case k1 => assumption); (case k2 => rfl); (case k3 => rfl); intro H' O') | ((with_reducible refine' R.a_setL ?k1 4 ?k2 ?k3 ?k4); (case k1 => assumption); (case k2 => rfl); (case k3 => rfl); intro H' O') | ((with_reducible refine' R.a_setL ?k1 5 ?k2 ?k3 ?k4); (case k1 => assumption); (case k2 => rfl); (case k3 => rfl); intro H' O') | ((with_reducible refine' R.a_setL ?k1 6 ?k2 ?k3 ?k4); (case k1 => assumption); (case k2 => rfl); (case k3 => rfl); intro H' O') | ((with_reducible refine' R.a_setL ?k1 7 ?k2 ?k3 ?k4); (case k1 => assumption); (case k2 => rfl); (case k3 => rfl); intro H' O') | ((with_reducible refine' R.a_setL ?k1 8 ?k2 ?k3 ?k4); (case k1 => assumption); (case k2 => rfl); (case k3 => rfl); intro H' O') | ((with_reducible refine' R.a_setL ?k1 9 ?k2 ?k3 ?k4); (case k1 => assumption); (case k2 => rfl); (case k3 => rfl); intro H' O'))
local macro_rules | `(tactic| walk_at "app") => `(tactic| first | ((with_reducible refine' R.a_app ?k1 0 ?k2 ?k3 ?k4); (case k1 => assumption); (case k2 => rfl)) | ((with_reducible refine' R.a_app ?k1 1 ?k2 ?k3 ?k4); (case k1 => assumption); (case k2 => rfl)) | ((with_reducible refine' R.a_app ?k1 2 ?k2 ?k3 ?k4); (case k1 => assumption); (case k2 => rfl)) | ((with_reducible refine' R.a_app ?k1 3 ?k2 ?k3 ?k4); (case k1 => assumption); (case k2 => rfl)) | ((with_reducible refine' R.a_app ?k1 4 ?k2 ?k3 ?k4); (case k1 => assumption); (case k2 => rfl)) | ((with_reducible refine' R.a_app ?k1 5 ?k2 ?k3 ?k4); (case k1 => assumption); (case k2 => rfl)))
local macro_rules | `(tactic| walk_at "mkL") => `(tactic| ((with_reducible refine' R.a_mkL ?k1 ?k2 ?k3); (case k1 => assumption); (case k2 => first | exact Nat.zero_le _ | (simp only [List.length_cons, List.length_nil, List.length_map]; omega))))
local macro_rules | `(tactic| walk_at "mkT") => `(tactic| ((with_reducible refine' R.a_mkT ?k1 ?k2 ?k3); (case k1 => assumption); (case k2 => first | exact Nat.zero_le _ | (simp only [List.length_cons, List.length_nil, List.length_map]; omega))))
local macro_rules | `(tactic| walk_at "h") => `(tactic| repeat (first | walk_at "s" | walk_at "k" | walk_at "c"))
local macro_rules | `(tactic| walk_at "g") => `(tactic| repeat (first | walk_at "s" | walk_at "k" | walk_at "c" | with_reducible refine R.a_if ?_))
local macro_rules | `(tactic| walk_at "s") => `(tactic| with_reducible refine R.a_enumT ?_)
local macro_rules | `(tactic| walk_at "s") => `(tactic| first | with_reducible refine R.a_fld ?_ | with_reducible refine R.a_sfld ?_ | with_reducible refine R.a_make ?_)
local macro_rules | `(tactic| walk_at "c") => `(tactic| ((with_reducible refine' R.a_glst ?k1 ?k2 ?k3); (case k1 => walk_at "sq"); (case k2 => rfl)))
local macro_rules | `(tactic| walk_at "s") => `(tactic| first | with_reducible refine R.a_neB ?_ | with_reducible refine R.a_eqB ?_ | with_reducible refine R.a_neO ?_ | with_reducible refine R.a_isO1 ?_ | with_reducible refine R.a_isO0 ?_ | with_reducible refine R.a_notO1 ?_ | with_reducible refine R.a_notO0 ?_)
local macro_rules | `(tactic| walk_at "s") => `(tactic| first | with_reducible refine R.a_par3 ?_ | with_reducible refine R.a_par33 ?_)
local macro_rules | `(tactic| walk_at "s") => `(tactic| first | with_reducible refine R.a_rng3 ?_ | ((with_reducible refine R.a_rngD ?h1 ?h2); (case h1 => omega)))
local macro_rules | `(tactic| walk_at "s") => `(tactic| first | with_reducible refine R.a_dput ?_ | with_reducible refine R.a_iKeys ?_)

namespace Toy
open PySem PySem.Spec PyProof.Rows L2 R
open PySem.W (Frag)
def topS (i : Nat) : Stmt := PySem.Challenge.pw_resttricks_k20_whole_multiples_of_sums.main.body.getD i (.Pass ⟨0, 0, 0, 0⟩)
abbrev s_is_from : Stmt := (topS 10)
abbrev N_is_from : List Str := ["value", "low", "high"]
abbrev p_is_from : List Str := ["value", "low", "high"]
theorem sc_is_from : FnScope N_is_from p_is_from (defScope s_is_from) := ⟨rfl, rfl, rfl, by decide +kernel, rfl, by decide +kernel, by decide +kernel⟩
abbrev s_need_base : Stmt := (topS 11)
abbrev N_need_base : List Str := ["base"]
abbrev p_need_base : List Str := ["base"]
theorem sc_need_base : FnScope N_need_base p_need_base (defScope s_need_base) := ⟨rfl, rfl, rfl, by decide +kernel, rfl, by decide +kernel, by decide +kernel⟩
abbrev s_need_divisor : Stmt := (topS 12)
abbrev N_need_divisor : List Str := ["d", "most"]
abbrev p_need_divisor : List Str := ["d", "most"]
theorem sc_need_divisor : FnScope N_need_divisor p_need_divisor (defScope s_need_divisor) := ⟨rfl, rfl, rfl, by decide +kernel, rfl, by decide +kernel, by decide +kernel⟩
abbrev s_common : Stmt := (topS 13)
abbrev N_common : List Str := ["one", "other", "great", "less"]
abbrev p_common : List Str := ["one", "other"]
theorem sc_common : FnScope N_common p_common (defScope s_common) := ⟨rfl, rfl, rfl, by decide +kernel, rfl, by decide +kernel, by decide +kernel⟩
abbrev s_power : Stmt := (topS 14)
abbrev N_power : List Str := ["base", "many", "found", "turn"]
abbrev p_power : List Str := ["base", "many"]
theorem sc_power : FnScope N_power p_power (defScope s_power) := ⟨rfl, rfl, rfl, by decide +kernel, rfl, by decide +kernel, by decide +kernel⟩
abbrev s_need_weights : Stmt := (topS 20)
abbrev N_need_weights : List Str := ["weights", "least", "index", "weight"]
abbrev p_need_weights : List Str := ["weights", "least"]
theorem sc_need_weights : FnScope N_need_weights p_need_weights (defScope s_need_weights) := ⟨rfl, rfl, rfl, by decide +kernel, rfl, by decide +kernel, by decide +kernel⟩
abbrev s_Sum_init : Stmt := (inClass (topS 21) 0)
abbrev N_Sum_init : List Str := ["self", "base", "take", "first", "loop"]
abbrev p_Sum_init : List Str := ["self", "base", "take", "first", "loop"]
theorem sc_Sum_init : FnScope N_Sum_init p_Sum_init (defScope s_Sum_init) := ⟨rfl, rfl, rfl, by decide +kernel, rfl, by decide +kernel, by decide +kernel⟩
abbrev s_need_sum : Stmt := (topS 22)
abbrev N_need_sum : List Str := ["told"]
abbrev p_need_sum : List Str := ["told"]
theorem sc_need_sum : FnScope N_need_sum p_need_sum (defScope s_need_sum) := ⟨rfl, rfl, rfl, by decide +kernel, rfl, by decide +kernel, by decide +kernel⟩
abbrev s_weight_at : Stmt := (topS 23)
abbrev N_weight_at : List Str := ["told", "at"]
abbrev p_weight_at : List Str := ["told", "at"]
theorem sc_weight_at : FnScope N_weight_at p_weight_at (defScope s_weight_at) := ⟨rfl, rfl, rfl, by decide +kernel, rfl, by decide +kernel, by decide +kernel⟩
abbrev s_powers_of : Stmt := (topS 24)
abbrev N_powers_of : List Str := ["block", "d", "found", "rest"]
abbrev p_powers_of : List Str := ["block", "d"]
theorem sc_powers_of : FnScope N_powers_of p_powers_of (defScope s_powers_of) := ⟨rfl, rfl, rfl, by decide +kernel, rfl, by decide +kernel, by decide +kernel⟩
abbrev s_look_of : Stmt := (topS 25)
abbrev N_look_of : List Str := ["told", "d", "some", "at", "ring", "both"]
abbrev p_look_of : List Str := ["told", "d"]
theorem sc_look_of : FnScope N_look_of p_look_of (defScope s_look_of) := ⟨rfl, rfl, rfl, by decide +kernel, rfl, by decide +kernel, by decide +kernel⟩
abbrev s_longer : Stmt := (topS 26)
abbrev N_longer : List Str := ["told", "d", "pairs", "at", "found", "unit", "weight", "rest", "other", "figure"]
abbrev p_longer : List Str := ["told", "d", "pairs", "at"]
theorem sc_longer : FnScope N_longer p_longer (defScope s_longer) := ⟨rfl, rfl, rfl, by decide +kernel, rfl, by decide +kernel, by decide +kernel⟩
abbrev s_is_bad : Stmt := (topS 27)
abbrev N_is_bad : List Str := ["pair"]
abbrev p_is_bad : List Str := ["pair"]
theorem sc_is_bad : FnScope N_is_bad p_is_bad (defScope s_is_bad) := ⟨rfl, rfl, rfl, by decide +kernel, rfl, by decide +kernel, by decide +kernel⟩
abbrev s_layers_of : Stmt := (topS 28)
abbrev N_layers_of : List Str := ["told", "d", "layers", "look", "pair"]
abbrev p_layers_of : List Str := ["told", "d"]
theorem sc_layers_of : FnScope N_layers_of p_layers_of (defScope s_layers_of) := ⟨rfl, rfl, rfl, by decide +kernel, rfl, by decide +kernel, by decide +kernel⟩
abbrev s_can_be_bad : Stmt := (topS 29)
abbrev N_can_be_bad : List Str := ["rest", "other", "pairs", "d", "one", "two"]
abbrev p_can_be_bad : List Str := ["rest", "other", "pairs", "d"]
theorem sc_can_be_bad : FnScope N_can_be_bad p_can_be_bad (defScope s_can_be_bad) := ⟨rfl, rfl, rfl, by decide +kernel, rfl, by decide +kernel, by decide +kernel⟩
abbrev s_first_fail : Stmt := (topS 30)
abbrev N_first_fail : List Str := ["told", "d", "layers", "found", "rest", "other", "at", "unit", "weight", "pair"]
abbrev p_first_fail : List Str := ["told", "d"]
theorem sc_first_fail : FnScope N_first_fail p_first_fail (defScope s_first_fail) := ⟨rfl, rfl, rfl, by decide +kernel, rfl, by decide +kernel, by decide +kernel⟩
abbrev s_sum_fails : Stmt := (topS 31)
abbrev N_sum_fails : List Str := ["told", "d"]
abbrev p_sum_fails : List Str := ["told", "d"]
theorem sc_sum_fails : FnScope N_sum_fails p_sum_fails (defScope s_sum_fails) := ⟨rfl, rfl, rfl, by decide +kernel, rfl, by decide +kernel, by decide +kernel⟩
abbrev s_law_taken : Stmt := (topS 33)
abbrev N_law_taken : List Str := ["_law_row", "_law_many", "_law_found", "_law_cell"]
abbrev p_law_taken : List Str := ["_law_row", "_law_many"]
theorem sc_law_taken : FnScope N_law_taken p_law_taken (defScope s_law_taken) := ⟨rfl, rfl, rfl, by decide +kernel, rfl, by decide +kernel, by decide +kernel⟩
abbrev s_law_power : Stmt := (topS 34)
abbrev N_law_power : List Str := ["_law_base", "_law_many", "_law_found", "_law_turn"]
abbrev p_law_power : List Str := ["_law_base", "_law_many"]
theorem sc_law_power : FnScope N_law_power p_law_power (defScope s_law_power) := ⟨rfl, rfl, rfl, by decide +kernel, rfl, by decide +kernel, by decide +kernel⟩
abbrev s_law_sum : Stmt := (topS 35)
abbrev N_law_sum : List Str := ["_law_row", "_law_d", "_law_base", "_law_take", "_law_block", "_law_kind", "_law_first", "_law_loop", "_law_some", "_law_rest", "_law_at", "_law_unit", "_law_k", "_law_weight_here"]
abbrev p_law_sum : List Str := ["_law_row", "_law_d"]
theorem sc_law_sum : FnScope N_law_sum p_law_sum (defScope s_law_sum) := ⟨rfl, rfl, rfl, by decide +kernel, rfl, by decide +kernel, by decide +kernel⟩
abbrev s_law_weight : Stmt := (topS 36)
abbrev N_law_weight : List Str := ["_law_told", "_law_at"]
abbrev p_law_weight : List Str := ["_law_told", "_law_at"]
theorem sc_law_weight : FnScope N_law_weight p_law_weight (defScope s_law_weight) := ⟨rfl, rfl, rfl, by decide +kernel, rfl, by decide +kernel, by decide +kernel⟩
abbrev s_law : Stmt := (topS 37)
abbrev N_law : List Str := ["_law_script", "_law_line", "_law_d", "_law_told", "_law_block", "_law_unit", "_law_at", "_law_pairs", "_law_fails_at", "_law_quiet", "_law_weight_here", "_law_more", "_law_rest", "_law_other", "_law_figure", "_law_fail"]
abbrev p_law : List Str := ["_law_script"]
theorem sc_law : FnScope N_law p_law (defScope s_law) := ⟨rfl, rfl, rfl, by decide +kernel, rfl, by decide +kernel, by decide +kernel⟩
structure Adr where
  f_is_from : Addr
  d_is_from : FuncData
  f_need_base : Addr
  d_need_base : FuncData
  f_need_divisor : Addr
  d_need_divisor : FuncData
  f_common : Addr
  d_common : FuncData
  f_power : Addr
  d_power : FuncData
  f_need_weights : Addr
  d_need_weights : FuncData
  f_Sum_init : Addr
  d_Sum_init : FuncData
  f_need_sum : Addr
  d_need_sum : FuncData
  f_weight_at : Addr
  d_weight_at : FuncData
  f_powers_of : Addr
  d_powers_of : FuncData
  f_look_of : Addr
  d_look_of : FuncData
  f_longer : Addr
  d_longer : FuncData
  f_is_bad : Addr
  d_is_bad : FuncData
  f_layers_of : Addr
  d_layers_of : FuncData
  f_can_be_bad : Addr
  d_can_be_bad : FuncData
  f_first_fail : Addr
  d_first_fail : FuncData
  f_sum_fails : Addr
  d_sum_fails : FuncData
  f_law_taken : Addr
  d_law_taken : FuncData
  f_law_power : Addr
  d_law_power : FuncData
  f_law_sum : Addr
  d_law_sum : FuncData
  f_law_weight : Addr
  d_law_weight : FuncData
  f_law : Addr
  d_law : FuncData
  c_Sum : Addr
structure Txt (K : Frag) (mg : Str → Option Value) (Z : Adr) : Prop where
  F_is_from : Fun K "is_from" "is_from" s_is_from Z.f_is_from Z.d_is_from
  b_is_from : Binds K Z.d_is_from p_is_from []
  g_is_from : mg "is_from" = some (.ref Z.f_is_from)
  F_need_base : Fun K "need_base" "need_base" s_need_base Z.f_need_base Z.d_need_base
  b_need_base : Binds K Z.d_need_base p_need_base []
  g_need_base : mg "need_base" = some (.ref Z.f_need_base)
  F_need_divisor : Fun K "need_divisor" "need_divisor" s_need_divisor Z.f_need_divisor Z.d_need_divisor
  b_need_divisor : Binds K Z.d_need_divisor p_need_divisor []
  g_need_divisor : mg "need_divisor" = some (.ref Z.f_need_divisor)
  F_common : Fun K "common" "common" s_common Z.f_common Z.d_common
  b_common : Binds K Z.d_common p_common []
  g_common : mg "common" = some (.ref Z.f_common)
  F_power : Fun K "power" "power" s_power Z.f_power Z.d_power
  b_power : Binds K Z.d_power p_power []
  g_power : mg "power" = some (.ref Z.f_power)
  F_need_weights : Fun K "need_weights" "need_weights" s_need_weights Z.f_need_weights Z.d_need_weights
  b_need_weights : Binds K Z.d_need_weights p_need_weights []
  g_need_weights : mg "need_weights" = some (.ref Z.f_need_weights)
  F_Sum_init : Fun K "__init__" "Sum.__init__" s_Sum_init Z.f_Sum_init Z.d_Sum_init
  b_Sum_init : Binds K Z.d_Sum_init p_Sum_init []
  F_need_sum : Fun K "need_sum" "need_sum" s_need_sum Z.f_need_sum Z.d_need_sum
  b_need_sum : Binds K Z.d_need_sum p_need_sum []
  g_need_sum : mg "need_sum" = some (.ref Z.f_need_sum)
  F_weight_at : Fun K "weight_at" "weight_at" s_weight_at Z.f_weight_at Z.d_weight_at
  b_weight_at : Binds K Z.d_weight_at p_weight_at []
  g_weight_at : mg "weight_at" = some (.ref Z.f_weight_at)
  F_powers_of : Fun K "powers_of" "powers_of" s_powers_of Z.f_powers_of Z.d_powers_of
  b_powers_of : Binds K Z.d_powers_of p_powers_of []
  g_powers_of : mg "powers_of" = some (.ref Z.f_powers_of)
  F_look_of : Fun K "look_of" "look_of" s_look_of Z.f_look_of Z.d_look_of
  b_look_of : Binds K Z.d_look_of p_look_of []
  g_look_of : mg "look_of" = some (.ref Z.f_look_of)
  F_longer : Fun K "longer" "longer" s_longer Z.f_longer Z.d_longer
  b_longer : Binds K Z.d_longer p_longer []
  g_longer : mg "longer" = some (.ref Z.f_longer)
  F_is_bad : Fun K "is_bad" "is_bad" s_is_bad Z.f_is_bad Z.d_is_bad
  b_is_bad : Binds K Z.d_is_bad p_is_bad []
  g_is_bad : mg "is_bad" = some (.ref Z.f_is_bad)
  F_layers_of : Fun K "layers_of" "layers_of" s_layers_of Z.f_layers_of Z.d_layers_of
  b_layers_of : Binds K Z.d_layers_of p_layers_of []
  g_layers_of : mg "layers_of" = some (.ref Z.f_layers_of)
  F_can_be_bad : Fun K "can_be_bad" "can_be_bad" s_can_be_bad Z.f_can_be_bad Z.d_can_be_bad
  b_can_be_bad : Binds K Z.d_can_be_bad p_can_be_bad []
  g_can_be_bad : mg "can_be_bad" = some (.ref Z.f_can_be_bad)
  F_first_fail : Fun K "first_fail" "first_fail" s_first_fail Z.f_first_fail Z.d_first_fail
  b_first_fail : Binds K Z.d_first_fail p_first_fail []
  g_first_fail : mg "first_fail" = some (.ref Z.f_first_fail)
  F_sum_fails : Fun K "sum_fails" "sum_fails" s_sum_fails Z.f_sum_fails Z.d_sum_fails
  b_sum_fails : Binds K Z.d_sum_fails p_sum_fails []
  g_sum_fails : mg "sum_fails" = some (.ref Z.f_sum_fails)
  F_law_taken : Fun K "_law_taken" "_law_taken" s_law_taken Z.f_law_taken Z.d_law_taken
  b_law_taken : Binds K Z.d_law_taken p_law_taken []
  g_law_taken : mg "_law_taken" = some (.ref Z.f_law_taken)
  F_law_power : Fun K "_law_power" "_law_power" s_law_power Z.f_law_power Z.d_law_power
  b_law_power : Binds K Z.d_law_power p_law_power []
  g_law_power : mg "_law_power" = some (.ref Z.f_law_power)
  F_law_sum : Fun K "_law_sum" "_law_sum" s_law_sum Z.f_law_sum Z.d_law_sum
  b_law_sum : Binds K Z.d_law_sum p_law_sum []
  g_law_sum : mg "_law_sum" = some (.ref Z.f_law_sum)
  F_law_weight : Fun K "_law_weight" "_law_weight" s_law_weight Z.f_law_weight Z.d_law_weight
  b_law_weight : Binds K Z.d_law_weight p_law_weight []
  g_law_weight : mg "_law_weight" = some (.ref Z.f_law_weight)
  F_law : Fun K "law" "law" s_law Z.f_law Z.d_law
  b_law : Binds K Z.d_law p_law []
  g_law : mg "law" = some (.ref Z.f_law)
  g_Sum : mg "Sum" = some (.ref Z.c_Sum)
  cl_Sum : Cls K Z.c_Sum
  is_Sum : C8.InsC K Z.c_Sum
  M_Sum : Mk K Z.c_Sum Z.f_Sum_init
  nf_Sum_basis : NoAttr K Z.c_Sum "basis"
  nf_Sum_many : NoAttr K Z.c_Sum "many"
  nf_Sum_begun : NoAttr K Z.c_Sum "begun"
  nf_Sum_again : NoAttr K Z.c_Sum "again"
  nf_Sum_block : NoAttr K Z.c_Sum "block"
  v_LEAST_BASE : ∃ t, mg "LEAST_BASE" = some (.int (2) t)
  v_MOST_BASE : ∃ t, mg "MOST_BASE" = some (.int (16) t)
  v_MOST_TAKE : ∃ t, mg "MOST_TAKE" = some (.int (2) t)
  v_MOST_WEIGHT : ∃ t, mg "MOST_WEIGHT" = some (.int (1000000) t)
  v_MOST_WEIGHTS : ∃ t, mg "MOST_WEIGHTS" = some (.int (12) t)
  v_MOST_SUM_DIVISOR : ∃ t, mg "MOST_SUM_DIVISOR" = some (.int (30) t)
  n_isinstance : mg "isinstance" = none
  n_int : mg "int" = none
  n_bool : mg "bool" = none
  n_abs : mg "abs" = none
  n_range : mg "range" = none
  n_enumerate : mg "enumerate" = none
  n_tuple : mg "tuple" = none
  n_len : mg "len" = none
  n_max : mg "max" = none
  n_min : mg "min" = none
  n_any : mg "any" = none
  n_dict : mg "dict" = none
section
variable {P : Program} {w : World} {K : Frag} {mg : Str → Option Value} {base : Heap} {Z : Adr}

/-! ### is_from -/
def sp_is_from (K : Frag) : Sp := fun vs H Q _ => ∃ i lo hi : Int, vs = [.int i, .int lo, .int hi] ∧ Q (.bl (decide (lo ≤ i) && decide (i ≤ hi))) H
theorem use_is_from {K : Frag} {i lo hi : Int} {H : Hp} {Q : VK} {E : XK} (h : Q (.bl (decide (lo ≤ i) && decide (i ≤ hi))) H) : sp_is_from K ([.int i, .int lo, .int hi] ++ []) H Q E := ⟨_, _, _, rfl, h⟩
theorem ok_is_from (T : Txt K mg Z) : FnOk P w K mg base CX0 1 Z.f_is_from Z.d_is_from p_is_from (sp_is_from K) := by
  refine T.F_is_from.ok sc_is_from (fun vs H Q E h => ?_) (fun cdv A outer s H vs Q E hr h => ?_)
  · obtain ⟨_, _, _, rfl, _⟩ := h; rfl
  · obtain ⟨i, lo, hi, rfl, h⟩ := h
    refine ⟨_, (pss_one (ps_ret (pe_and (pe_callB (r := rIsi K) call_isi (by rfl) T.n_isinstance boot_isinstance (pa_cons (pv 0) (pa_cons (pe_bltn (v := .ty "int") (by rfl) T.n_int boot_int rfl) pa_nil))) (pe_and (pe_not (pe_callB (r := rIsi K) call_isi (by rfl) T.n_isinstance boot_isinstance (pa_cons (pv 0) (pa_cons (pe_bltn (v := .ty "bool") (by rfl) T.n_bool boot_bool rfl) pa_nil)))) (pe_one (pe_chain op_le op_le (pv 1) (pv 0) (pv 2))))))), ?_⟩
    walk_at "g"
    refine a_it2 (fun c => ?_) (fun c => ?_)
    · walk_at "g"
      rw [decide_eq_true c, Bool.true_and] at h; exact h
    · rw [decide_eq_false c] at h; exact h
-- @USE
local macro_rules | `(tactic| walk_at "c") => `(tactic| with_reducible refine use_is_from ?_)

/-! ### need_base -/
def sp_need_base : Sp := fun vs H Q _ => ∃ b : Int, vs = [.int b] ∧ 2 ≤ b ∧ b ≤ 16 ∧ Q .non H
theorem use_need_base {b : Int} {H : Hp} {Q : VK} {E : XK} (h1 : 2 ≤ b) (h2 : b ≤ 16) (h : Q .non H) : sp_need_base ([.int b] ++ []) H Q E := ⟨_, rfl, h1, h2, h⟩
theorem ok_need_base (T : Txt K mg Z) : FnOk P w K mg base CX0 2 Z.f_need_base Z.d_need_base p_need_base sp_need_base := by
  refine T.F_need_base.ok sc_need_base (fun vs H Q E h => ?_) (fun cdv A outer s H vs Q E hr h => ?_)
  · obtain ⟨_, rfl, _⟩ := h; rfl
  · obtain ⟨b, rfl, h1, h2, h⟩ := h
    refine ⟨_, (pss_one (ps_if (pt_not (pt_val (pe_call (ok_is_from T) (hr.mono (by decide)) rfl T.g_is_from T.F_is_from.kp T.b_is_from .nil pass0 (pa_cons (pv 0) (pa_cons (pe_globI rfl T.v_LEAST_BASE) (pa_cons (pe_globI rfl T.v_MOST_BASE) pa_nil)))))) (pss_one ps_never) pss_nil)), ?_⟩
    walk_at "g"
    exact h
-- @USE
local macro_rules | `(tactic| walk_at "c") => `(tactic| ((with_reducible refine use_need_base ?h1 ?h2 ?h3); (case h1 => omega); (case h2 => omega)))

/-! ### need_divisor -/
def sp_need_divisor : Sp := fun vs H Q _ => ∃ d m : Int, vs = [.int d, .int m] ∧ 1 ≤ d ∧ d ≤ m ∧ Q .non H
theorem use_need_divisor {d m : Int} {H : Hp} {Q : VK} {E : XK} (h1 : 1 ≤ d) (h2 : d ≤ m) (h : Q .non H) : sp_need_divisor ([.int d, .int m] ++ []) H Q E := ⟨_, _, rfl, h1, h2, h⟩
theorem ok_need_divisor (T : Txt K mg Z) : FnOk P w K mg base CX0 2 Z.f_need_divisor Z.d_need_divisor p_need_divisor sp_need_divisor := by
  refine T.F_need_divisor.ok sc_need_divisor (fun vs H Q E h => ?_) (fun cdv A outer s H vs Q E hr h => ?_)
  · obtain ⟨_, _, rfl, _⟩ := h; rfl
  · obtain ⟨d, m, rfl, h1, h2, h⟩ := h
    refine ⟨_, (pss_one (ps_if (pt_not (pt_val (pe_call (ok_is_from T) (hr.mono (by decide)) rfl T.g_is_from T.F_is_from.kp T.b_is_from .nil pass0 (pa_cons (pv 0) (pa_cons pe_int (pa_cons (pv 1) pa_nil)))))) (pss_one ps_never) pss_nil)), ?_⟩
    walk_at "g"
    exact h
-- @USE
local macro_rules | `(tactic| walk_at "c") => `(tactic| ((with_reducible refine use_need_divisor ?h1 ?h2 ?h3); (case h1 => omega); (case h2 => omega)))

/-! ### common -/
def sp_common : Sp := fun vs H Q _ => ∃ m n : Int, vs = [.int m, .int n] ∧ Q (.int (Int.gcd m n)) H
theorem use_common {m n : Int} {H : Hp} {Q : VK} {E : XK} (h : Q (.int (Int.gcd m n)) H) : sp_common ([.int m, .int n] ++ []) H Q E := ⟨m, n, rfl, h⟩
theorem ok_common (T : Txt K mg Z) : FnOk P w K mg base CX0 1 Z.f_common Z.d_common p_common sp_common := by
  refine T.F_common.ok sc_common (fun vs H Q E h => ?_) (fun cdv A outer s H vs Q E hr h => ?_)
  · obtain ⟨_, _, rfl, _⟩ := h; rfl
  · obtain ⟨m, n, rfl, h⟩ := h
    refine ⟨_, (pss_cons (ps_par (i := 2) (j := 3) (by rfl) sc_common.nd rfl rfl (by decide) rfl rfl (pa_cons (pe_callB call_absR (by rfl) T.n_abs boot_abs (pa_cons (pv 0) pa_nil)) (pa_cons (pe_callB call_absR (by rfl) T.n_abs boot_abs (pa_cons (pv 1) pa_nil)) pa_nil)) (by rfl))
    (pss_cons (ps_while PassesOwn.never (pt_cmpR op_gt (pv 3) pe_int (nomark _))
    (pss_one (ps_par (i := 2) (j := 3) (by rfl) sc_common.nd rfl rfl (by decide) rfl rfl (pa_cons (pv 3) (pa_cons (pe_op op_mod (pv 2) (pv 3)) pa_nil)) (by rfl))))
    (pss_one (ps_ret (pv 2))))), ?_⟩
    walk_at "g"
    refine a_while (fun i σ H' => H' = H ∧ ∃ g l : Nat, σ = [some (.int m), some (.int n), some (.int g), some (.int l)] ∧ i = l ∧ Nat.gcd g l = Int.gcd m n) ⟨_, rfl, m.natAbs, n.natAbs, rfl, rfl, rfl⟩ ?_
    rintro i σ H' ⟨rfl, g, l, rfl, rfl, hg⟩
    walk_at "g"
    refine a_it2 (fun c => ?_) (fun c => ?_)
    · refine a_turn ?_
      walk_at "g"
      have e := Nat.gcd_rec i g
      rw [Nat.gcd_comm, e, Nat.gcd_comm] at hg
      exact ⟨g % i, Nat.mod_lt _ (by omega), rfl, i, g % i, rfl, rfl, hg⟩
    · walk_at "g"
      have e : i = 0 := by omega
      rw [e, Nat.gcd_zero_right] at hg
      rw [hg]
      exact h
-- @USE
local macro_rules | `(tactic| walk_at "c") => `(tactic| with_reducible refine use_common ?_)

/-! ### power -/
def sp_power : Sp := fun vs H Q _ => ∃ b m : Int, vs = [.int b, .int m] ∧ -(2 ^ 62) ≤ m ∧ m < 2 ^ 62 ∧ -(2 ^ 64) < b ∧ b < 2 ^ 64 ∧ Q (.int (b ^ m.toNat)) H
theorem use_power {b m : Int} {H : Hp} {Q : VK} {E : XK} (h1 : -(2 ^ 62) ≤ m ∧ m < 2 ^ 62 ∧ -(2 ^ 64) < b ∧ b < 2 ^ 64) (h : Q (.int (b ^ m.toNat)) H) : sp_power ([.int b, .int m] ++ []) H Q E := ⟨_, _, rfl, h1.1, h1.2.1, h1.2.2.1, h1.2.2.2, h⟩
theorem ok_power (T : Txt K mg Z) : FnOk P w K mg base CX0 1 Z.f_power Z.d_power p_power sp_power := by
  refine T.F_power.ok sc_power (fun vs H Q E h => ?_) (fun cdv A outer s H vs Q E hr h => ?_)
  · obtain ⟨_, _, rfl, _⟩ := h; rfl
  · obtain ⟨b, m, rfl, h1, h2, h3, h4, h⟩ := h
    refine ⟨_, (pss_cons (ps_set (i := 2) sc_power.nd rfl (Or.inl rfl) pe_int)
    (pss_cons (ps_for PassesOwn.never rfl (pi_range1 rfl T.n_range (pa_cons (pv 1) pa_nil)) (pg_name (i := 3) sc_power.nd rfl (Or.inl rfl))
    (pss_one (ps_set (i := 2) sc_power.nd rfl (Or.inl rfl) (pe_op op_mulX (pv 2) (pv 0)))))
    (pss_one (ps_ret (pv 2))))), ?_⟩
    walk_at "g"
    refine for_range (fun i σ H' => H' = H ∧ ∃ v, σ = [some (.int b), some (.int m), some (.int (b ^ i)), v]) ⟨rfl, none, by rw [Int.pow_zero]; rfl⟩ ?_ ?_
    · rintro i σ H' hi ⟨rfl, v, rfl⟩
      walk_at "g"
      exact ⟨rfl, _, by rw [Int.pow_succ]; rfl⟩
    · rintro σ H' ⟨rfl, v, rfl⟩
      walk_at "g"
      exact h
-- @USE
local macro_rules | `(tactic| walk_at "c") => `(tactic| ((with_reducible refine use_power ?h1 ?h2); (case h1 => omega)))

/-! ### need_weights -/
def sp_need_weights : Sp := fun vs H Q _ => ∃ (p : Addr) (ws : List Int) (m : Int), vs = [.ref p, .int m] ∧ H p = some (.tup (ws.map V.int)) ∧ m ≤ ws.length ∧ ws.length ≤ 12 ∧ (∀ w ∈ ws, -(10 ^ 6) ≤ w ∧ w ≤ 10 ^ 6) ∧ ∀ H', Same H H' → Q .non H'
theorem ok_need_weights (T : Txt K mg Z) : FnOk P w K mg base CX0 2 Z.f_need_weights Z.d_need_weights p_need_weights sp_need_weights := by
  refine T.F_need_weights.ok sc_need_weights (fun vs H Q E h => ?_) (fun cdv A outer s H vs Q E hr h => ?_)
  · obtain ⟨_, _, _, rfl, _⟩ := h; rfl
  · obtain ⟨p, ws, m, rfl, hp, hm, hl, hw, h⟩ := h
    have O := Own.refl H
    refine ⟨_, (pss_cons (ps_if (PW.pt (pw_or (pt_not (pt_val (pe_callB (r := rIsi K) call_isi (by rfl) T.n_isinstance boot_isinstance (pa_cons (pv 0) (pa_cons (pe_bltn (v := .ty "tuple") (by rfl) T.n_tuple boot_tuple rfl) pa_nil))))) (pw_or1 (pt_not (pt_chain op_le op_le (pv 1) (pe_callB (r := R.rLen K) call_lenR (by rfl) T.n_len boot_len (pa_cons (pv 0) pa_nil)) (pe_globI rfl T.v_MOST_WEIGHTS)))))) (pss_one ps_never) pss_nil)
    (pss_one (ps_for PassesOwn.never rfl (pi_enumT rfl T.n_enumerate (pa_cons (pv 0) pa_nil)) (pg_tup rfl (pgs_cons (pg_name (i := 2) sc_need_weights.nd rfl (Or.inl rfl)) (pgs_cons (pg_name (i := 3) sc_need_weights.nd rfl (Or.inl rfl)) pgs_nil)))
    (pss_one (ps_if (pt_not (pt_val (pe_call (ok_is_from T) (hr.mono (by decide)) rfl T.g_is_from T.F_is_from.kp T.b_is_from .nil pass0 (pa_cons (pv 3) (pa_cons (pe_un un_neg (pe_globI rfl T.v_MOST_WEIGHT)) (pa_cons (pe_globI rfl T.v_MOST_WEIGHT) pa_nil)))))) (pss_one ps_never) pss_nil))))), ?_⟩
    walk_at "g"
    refine ⟨_, _, .type "tuple", .type "tuple", true, rfl, .ty _, .base (.tup hp), kit_ty (by decide +kernel), ?_⟩
    walk_at "g"
    refine a_len (.inr (SqT.of hp)) ?_
    rw [List.length_map]
    walk_at "g"
    refine ⟨p, _, rfl, SqT.of hp, ?_⟩
    refine for_it walk_enumT (fun i σ H' => ∃ v2 v3 Lw, σ = [some (.ref p), some (.int m), v2, v3] ∧ Own H Lw H') ⟨_, _, _, rfl, O⟩ (fun i σ H' _ ⟨_, _, _, _, O⟩ => SqT.of (O.st _ _ hp)) ?_ ?_
    · clear O
      rintro i v σ H' H'' hi ⟨v2, v3, Lw, rfl, O⟩ ⟨t, y1, y2, rfl, ht, rfl, e1, e2⟩
      rw [List.length_map] at hi
      have O := Own.new (o := .tup [y1, y2]) O ht
      have e1 : y1 = .int i := (Option.some.inj e1).symm
      have e2 : (ws.map V.int)[i]? = some y2 := e2
      have e2 : y2 = .int (ws[i]'hi) := by
        rw [List.getElem?_map, List.getElem?_eq_getElem hi] at e2
        exact (Option.some.inj e2).symm
      subst e1 e2
      have hy := hw _ (List.getElem_mem hi)
      walk_at "g"
      exact ⟨_, _, _, rfl, O⟩
    · clear O
      rintro σ H' ⟨v2, v3, Lw, rfl, O⟩
      walk_at "g"
      exact h _ O.toSame

/-! ### Sum_init -/
-- @NEEDS need_base need_weights power is_from
/-- the fields of a sum -/
def sumF (b k : Int) (p1 p2 : Addr) : List (Str × V) := [("basis", .int b), ("many", .int k), ("begun", .ref p1), ("again", .ref p2), ("block", .int (b ^ k.toNat))]
def SumAt (Z : Adr) (H : Hp) (a : Addr) (b k : Int) (f l : List Int) : Prop := SumOk b k f l ∧ ∃ dx p1 p2, H a = some (.ins Z.c_Sum dx (sumF b k p1 p2)) ∧ H p1 = some (.tup (f.map V.int)) ∧ H p2 = some (.tup (l.map V.int))
theorem SumAt.same {B H : Hp} {a : Addr} {b k : Int} {f l : List Int} (s : Same B H) (h : SumAt Z B a b k f l) : SumAt Z H a b k f l := by
  obtain ⟨h1, dx, p1, p2, h2, h3, h4⟩ := h
  exact ⟨h1, dx, p1, p2, s _ _ h2, s _ _ h3, s _ _ h4⟩
theorem blockS {b k : Int} (hb : 2 ≤ b ∧ b ≤ 16) (hk : 1 ≤ k ∧ k ≤ 2) : 2 ≤ b ^ k.toNat ∧ b ^ k.toNat ≤ 256 := by
  have e : k = 1 ∨ k = 2 := by omega
  rcases e with rfl | rfl
  · have z : b ^ (1 : Int).toNat = b := by rw [show (1 : Int).toNat = 1 from rfl, Int.pow_succ, Int.pow_zero, Int.one_mul]
    rw [z]; omega
  · have z : b ^ (2 : Int).toNat = b * b := by rw [show (2 : Int).toNat = 2 from rfl, Int.pow_succ, Int.pow_succ, Int.pow_zero, Int.one_mul]
    rw [z]
    have h1 : b * 2 ≤ b * b := Int.mul_le_mul_of_nonneg_left hb.1 (by omega)
    have h2 : b * b ≤ 16 * 16 := Int.mul_le_mul hb.2 hb.2 (by omega) (by omega)
    omega
def sp_Sum_init (C : Addr) : Sp := fun vs H Q _ => ∃ (x dx p1 p2 : Addr) (b k : Int) (f l : List Int), vs = [.ref x, .int b, .int k, .ref p1, .ref p2] ∧ H x = some (.ins C dx []) ∧ SumOk b k f l ∧ (del1 H x) p1 = some (.tup (f.map V.int)) ∧ (del1 H x) p2 = some (.tup (l.map V.int)) ∧
  ∀ H', (∀ q v, q ≠ x → H q = some v → H' q = some v) → H' x = some (.ins C dx (sumF b k p1 p2)) → Q .non H'
theorem getS_block {H : Hp} {a : Addr} {b k : Int} {f l : List Int} {Q : VK} (T : Txt K mg Z) (h : SumAt Z H a b k f l) (q : Q (.int (b ^ k.toNat)) H) : rFld K "block" (.ref a) H Q := by
  obtain ⟨_, dx, p1, p2, h, _⟩ := h
  refine a_getF h T.cl_Sum T.nf_Sum_block ?_ q
  unfold sumF
  rw [lk_ne (by decide +kernel), lk_ne (by decide +kernel), lk_ne (by decide +kernel), lk_ne (by decide +kernel), lk_eq]
theorem getS_begun {H : Hp} {a : Addr} {b k : Int} {f l : List Int} {Q : VK} (T : Txt K mg Z) (h : SumAt Z H a b k f l) (q : ∀ p1, SqT K H p1 (f.map V.int) → Q (.ref p1) H) : rFld K "begun" (.ref a) H Q := by
  obtain ⟨_, dx, p1, p2, h, h1, _⟩ := h
  refine a_getF h T.cl_Sum T.nf_Sum_begun ?_ (q p1 (SqT.of h1))
  unfold sumF
  rw [lk_ne (by decide +kernel), lk_ne (by decide +kernel), lk_eq]
theorem getS_again {H : Hp} {a : Addr} {b k : Int} {f l : List Int} {Q : VK} (T : Txt K mg Z) (h : SumAt Z H a b k f l) (q : ∀ p2, SqT K H p2 (l.map V.int) → Q (.ref p2) H) : rFld K "again" (.ref a) H Q := by
  obtain ⟨_, dx, p1, p2, h, _, h2⟩ := h
  refine a_getF h T.cl_Sum T.nf_Sum_again ?_ (q p2 (SqT.of h2))
  unfold sumF
  rw [lk_ne (by decide +kernel), lk_ne (by decide +kernel), lk_ne (by decide +kernel), lk_eq]
theorem a_ixTI {H : Hp} {p : Addr} {ws : List Int} {i : Nat} {Q : VK} (h : SqT K H p (ws.map V.int)) (hi : i < ws.length) (q : Q (.int ((ws[i]?).getD 0)) H) : rIxT K (.ref p) (.int i) H Q := by
  refine a_ixT h (v := .int ((ws[i]?).getD 0)) (atI_nat ?_) q
  rw [List.getElem?_map, List.getElem?_eq_getElem hi]; rfl
theorem use_Sum {B H : Hp} {Lw : List (Addr × HO)} {p1 p2 : Addr} {b k : Int} {f l : List Int} {Q : VK} {E : XK} (O : Own B Lw H) (so : SumOk b k f l) (h1 : H p1 = some (.tup (f.map V.int))) (h2 : H p2 = some (.tup (l.map V.int)))
    (h : ∀ x H', Own B Lw H' → SumAt Z H' x b k f l → Q (.ref x) H') : NewI Z.c_Sum (sp_Sum_init Z.c_Sum) [] E [.int b, .int k, .ref p1, .ref p2] H Q := by
  intro x dx hx hdx ne
  have O1 := Own.new (o := .own x) O hdx
  have hx1 : upd H dx (.own x) x = none := by rw [upd_ne ne.symm]; exact hx
  have O2 := Own.new (o := .ins Z.c_Sum dx []) O1 hx1
  have up : ∀ q v, H q = some v → upd (upd H dx (.own x)) x (.ins Z.c_Sum dx []) q = some v ∧ q ≠ x := fun q v e => by
    have n1 : q ≠ x := fun z => by rw [z, hx] at e; cases e
    have n2 : q ≠ dx := fun z => by rw [z, hdx] at e; cases e
    exact ⟨by rw [upd_ne n1, upd_ne n2]; exact e, n1⟩
  have u1 := up _ _ h1
  have u2 := up _ _ h2
  refine ⟨x, dx, p1, p2, b, k, f, l, rfl, upd_same, so, by rw [del1_ne u1.2]; exact u1.1, by rw [del1_ne u2.2]; exact u2.1, fun H' k1 hx' => ⟨rfl, ?_⟩⟩
  have O3 : Own B ((x, .ins Z.c_Sum dx (sumF b k p1 p2)) :: (dx, .own x) :: Lw) H' := O2.but 0 rfl k1 hx'
  exact h x H' O3.tail.tail ⟨so, dx, p1, p2, hx', k1 _ _ u1.2 u1.1, k1 _ _ u2.2 u2.1⟩
/-- a sum made, owned -/
theorem use_SumO {B H : Hp} {Lw : List (Addr × HO)} {p1 p2 : Addr} {b k : Int} {f l : List Int} {Q : VK} {E : XK} (O : Own B Lw H) (so : SumOk b k f l) (h1 : H p1 = some (.tup (f.map V.int))) (h2 : H p2 = some (.tup (l.map V.int)))
    (h : ∀ x dx H', Own B ((x, .ins Z.c_Sum dx (sumF b k p1 p2)) :: Lw) H' → Q (.ref x) H') : NewI Z.c_Sum (sp_Sum_init Z.c_Sum) [] E [.int b, .int k, .ref p1, .ref p2] H Q := by
  intro x dx hx hdx ne
  have O1 := Own.new (o := .own x) O hdx
  have hx1 : upd H dx (.own x) x = none := by rw [upd_ne ne.symm]; exact hx
  have O2 := Own.new (o := .ins Z.c_Sum dx []) O1 hx1
  have up : ∀ q v, H q = some v → upd (upd H dx (.own x)) x (.ins Z.c_Sum dx []) q = some v ∧ q ≠ x := fun q v e => by
    have n1 : q ≠ x := fun z => by rw [z, hx] at e; cases e
    have n2 : q ≠ dx := fun z => by rw [z, hdx] at e; cases e
    exact ⟨by rw [upd_ne n1, upd_ne n2]; exact e, n1⟩
  have u1 := up _ _ h1
  have u2 := up _ _ h2
  refine ⟨x, dx, p1, p2, b, k, f, l, rfl, upd_same, so, by rw [del1_ne u1.2]; exact u1.1, by rw [del1_ne u2.2]; exact u2.1, fun H' k1 hx' => ⟨rfl, ?_⟩⟩
  have O3 : Own B ((x, .ins Z.c_Sum dx (sumF b k p1 p2)) :: (dx, .own x) :: Lw) H' := O2.but 0 rfl k1 hx'
  exact h x dx H' O3.tail2
theorem sumAt_of {B H : Hp} {Lw : List (Addr × HO)} {x dx p1 p2 : Addr} {b k : Int} {f l : List Int} (so : SumOk b k f l) (O : Own B Lw H) (i j m : Nat) (h : Lw[i]? = some (x, .ins Z.c_Sum dx (sumF b k p1 p2))) (h1 : Lw[j]? = some (p1, .tup (f.map V.int))) (h2 : Lw[m]? = some (p2, .tup (l.map V.int))) : SumAt Z H x b k f l :=
  ⟨so, dx, p1, p2, O.get i h, O.get j h1, O.get m h2⟩
/-- a sum made, in the base -/
theorem use_SumB {B H : Hp} {Lw : List (Addr × HO)} {p1 p2 : Addr} {b k : Int} {f l : List Int} {Q : VK} {E : XK} (O : Own B Lw H) (so : SumOk b k f l) (h1 : B p1 = some (.tup (f.map V.int))) (h2 : B p2 = some (.tup (l.map V.int)))
    (h : ∀ x B' H', Same B B' → Own B' Lw H' → SumAt Z B' x b k f l → (∃ dx, B' x = some (.ins Z.c_Sum dx (sumF b k p1 p2))) → Q (.ref x) H') : NewI Z.c_Sum (sp_Sum_init Z.c_Sum) [] E [.int b, .int k, .ref p1, .ref p2] H Q :=
  use_SumO O so (O.st _ _ h1) (O.st _ _ h2) fun x dx H' O' => h x _ H' O'.fixS O'.fix ⟨so, dx, p1, p2, upd_same, O'.fixS _ _ h1, O'.fixS _ _ h2⟩ ⟨dx, upd_same⟩
theorem ok_Sum_init (T : Txt K mg Z) : FnOk P w K mg base CX0 3 Z.f_Sum_init Z.d_Sum_init p_Sum_init (sp_Sum_init Z.c_Sum) := by
  refine T.F_Sum_init.ok sc_Sum_init (fun vs H Q E h => ?_) (fun cdv A outer s H vs Q E hr h => ?_)
  · obtain ⟨_, _, _, _, _, _, _, _, rfl, _⟩ := h; rfl
  · obtain ⟨x, dx, p1, p2, b, k, f, l, rfl, hx, so, h1, h2, h⟩ := h
    have O := Own.refl1 hx
    have bb := so.hb
    have kk := so.hk
    have ff := so.hf
    have ll := so.hl
    refine ⟨_, (pss_cons (ps_expr (pe_call (ok_need_base T) (hr.mono (by decide)) rfl T.g_need_base T.F_need_base.kp T.b_need_base .nil pass0 (pa_cons (pv 1) pa_nil)))
    (pss_cons (ps_if (pt_not (pt_val (pe_call (ok_is_from T) (hr.mono (by decide)) rfl T.g_is_from T.F_is_from.kp T.b_is_from .nil pass0 (pa_cons (pv 2) (pa_cons pe_int (pa_cons (pe_globI rfl T.v_MOST_TAKE) pa_nil)))))) (pss_one ps_never) pss_nil)
    (pss_cons (ps_expr (pe_call (ok_need_weights T) (hr.mono (by decide)) rfl T.g_need_weights T.F_need_weights.kp T.b_need_weights .nil pass0 (pa_cons (pv 3) (pa_cons pe_int pa_nil))))
    (pss_cons (ps_expr (pe_call (ok_need_weights T) (hr.mono (by decide)) rfl T.g_need_weights T.F_need_weights.kp T.b_need_weights .nil pass0 (pa_cons (pv 4) (pa_cons pe_int pa_nil))))
    (pss_cons (ps_fld (pv 0) (pv 1) rfl)
    (pss_cons (ps_fld (pv 0) (pv 2) rfl)
    (pss_cons (ps_fld (pv 0) (pv 3) rfl)
    (pss_cons (ps_fld (pv 0) (pv 4) rfl)
    (pss_one (ps_fld (pv 0) (pe_call (ok_power T) (hr.mono (by decide)) rfl T.g_power T.F_power.kp T.b_power .nil pass0 (pa_cons (pv 1) (pa_cons (pv 2) pa_nil))) rfl)))))))))), ?_⟩
    have n1 : ¬ ("basis" : Str) = "many" := by decide +kernel
    have n2 : ¬ ("basis" : Str) = "begun" := by decide +kernel
    have n3 : ¬ ("many" : Str) = "begun" := by decide +kernel
    have n4 : ¬ ("basis" : Str) = "again" := by decide +kernel
    have n5 : ¬ ("many" : Str) = "again" := by decide +kernel
    have n6 : ¬ ("begun" : Str) = "again" := by decide +kernel
    have n7 : ¬ ("basis" : Str) = "block" := by decide +kernel
    have n8 : ¬ ("many" : Str) = "block" := by decide +kernel
    have n9 : ¬ ("begun" : Str) = "block" := by decide +kernel
    have n10 : ¬ ("again" : Str) = "block" := by decide +kernel
    walk_at "g"
    refine ⟨p1, f, 0, rfl, O.st _ _ h1, by omega, ff, so.wf, fun H' s => ?_⟩
    replace O := O.same s
    walk_at "g"
    refine ⟨p2, l, 1, rfl, O.st _ _ h2, by omega, ll.2, so.wl, fun H' s => ?_⟩
    replace O := O.same s
    walk_at "g"
    refine a_setF O 0 rfl T.cl_Sum T.nf_Sum_basis (Nat.lt_of_le_of_lt (Nat.le_refl 0) (by decide)) (fun H1 O => ?_)
    simp only [List.set, put_nil] at O
    walk_at "g"
    refine a_setF O 0 rfl T.cl_Sum T.nf_Sum_many (Nat.lt_of_le_of_lt (Nat.le_refl 1) (by decide)) (fun H2 O => ?_)
    simp only [List.set, put_ne n1, put_nil] at O
    walk_at "g"
    refine a_setF O 0 rfl T.cl_Sum T.nf_Sum_begun (Nat.lt_of_le_of_lt (Nat.le_refl 2) (by decide)) (fun H3 O => ?_)
    simp only [List.set, put_ne n2, put_ne n3, put_nil] at O
    walk_at "g"
    refine a_setF O 0 rfl T.cl_Sum T.nf_Sum_again (Nat.lt_of_le_of_lt (Nat.le_refl 3) (by decide)) (fun H4 O => ?_)
    simp only [List.set, put_ne n4, put_ne n5, put_ne n6, put_nil] at O
    walk_at "g"
    refine a_setF O 0 rfl T.cl_Sum T.nf_Sum_block (Nat.lt_of_le_of_lt (Nat.le_refl 4) (by decide)) (fun H5 O => ?_)
    simp only [List.set, put_ne n7, put_ne n8, put_ne n9, put_ne n10, put_nil] at O
    exact h _ (Own.toBut O) (O.get 0 rfl)

/-! ### need_sum -/
-- @NEEDS Sum_init
def sp_need_sum (Z : Adr) : Sp := fun vs H Q _ => ∃ (a : Addr) (b k : Int) (f l : List Int), vs = [.ref a] ∧ SumAt Z H a b k f l ∧ Q .non H
theorem ok_need_sum (T : Txt K mg Z) : FnOk P w K mg base CX0 1 Z.f_need_sum Z.d_need_sum p_need_sum (sp_need_sum Z) := by
  refine T.F_need_sum.ok sc_need_sum (fun vs H Q E h => ?_) (fun cdv A outer s H vs Q E hr h => ?_)
  · obtain ⟨_, _, _, _, _, rfl, _⟩ := h; rfl
  · obtain ⟨a, b, k, f, l, rfl, ha, h⟩ := h
    refine ⟨_, (pss_one (ps_if (pt_not (pt_val (pe_callB (r := rIsi K) call_isi (by rfl) T.n_isinstance boot_isinstance (pa_cons (pv 0) (pa_cons (pe_glob rfl T.g_Sum (v := .ref Z.c_Sum) rfl) pa_nil))))) (pss_one ps_never) pss_nil)), ?_⟩
    walk_at "g"
    obtain ⟨_, dx, _, _, h2, _⟩ := ha
    refine ⟨_, _, _, _, true, rfl, .own _, .base (.ins h2 T.is_Sum.cl T.is_Sum.ha T.is_Sum.hn T.is_Sum.htk T.is_Sum.hm), T.is_Sum.me, ?_⟩
    walk_at "g"
    exact h

/-! ### weight_at -/
-- @NEEDS Sum_init
def sp_weight_at (Z : Adr) : Sp := fun vs H Q _ => ∃ (a : Addr) (b k : Int) (f l : List Int) (i : Nat), vs = [.ref a, .int i] ∧ SumAt Z H a b k f l ∧ Q (.int (wt f l i)) H
theorem ok_weight_at (T : Txt K mg Z) : FnOk P w K mg base CX0 1 Z.f_weight_at Z.d_weight_at p_weight_at (sp_weight_at Z) := by
  refine T.F_weight_at.ok sc_weight_at (fun vs H Q E h => ?_) (fun cdv A outer s H vs Q E hr h => ?_)
  · obtain ⟨_, _, _, _, _, _, rfl, _⟩ := h; rfl
  · obtain ⟨a, b, k, f, l, i, rfl, ha, h⟩ := h
    have ll := ha.1.hl
    refine ⟨_, (pss_cons (ps_if (pt_cmpR op_lt (pv 1) (pe_callB (r := R.rLen K) call_lenR (by rfl) T.n_len boot_len (pa_cons (pe_fld (pv 0) rfl) pa_nil)) (nomark _)) (pss_one (ps_ret (pe_ix (r := rIxT K) ix_tup (pe_fld (pv 0) rfl) (pv 1) (fun _ _ => rfl)))) pss_nil)
    (pss_one (ps_ret (pe_ix (r := rIxT K) ix_tup (pe_fld (pv 0) rfl) (pe_op op_mod (pe_op op_sub (pv 1) (pe_callB (r := R.rLen K) call_lenR (by rfl) T.n_len boot_len (pa_cons (pe_fld (pv 0) rfl) pa_nil))) (pe_callB (r := R.rLen K) call_lenR (by rfl) T.n_len boot_len (pa_cons (pe_fld (pv 0) rfl) pa_nil))) (fun _ _ => rfl))))), ?_⟩
    walk_at "g"
    refine getS_begun T ha (fun p1 s1 => ?_)
    walk_at "g"
    rw [List.length_map]
    refine a_it2 (fun c => ?_) (fun c => ?_)
    · walk_at "g"
      refine getS_begun T ha (fun p1 s1 => ?_)
      walk_at "g"
      refine a_ixTI s1 (by omega) ?_
      unfold wt at h
      rw [if_pos (by omega)] at h
      exact h
    · walk_at "g"
      refine getS_again T ha (fun p2 s2 => ?_)
      walk_at "g"
      refine getS_begun T ha (fun p1 s1 => ?_)
      walk_at "g"
      refine getS_again T ha (fun p3 s3 => ?_)
      walk_at "g"
      rw [List.length_map, List.length_map]
      walk_at "g"
      have e : ((i : Int) - (f.length : Int)) % (l.length : Int) = (((i - f.length) % l.length : Nat) : Int) := by
        rw [show (i : Int) - (f.length : Int) = ((i - f.length : Nat) : Int) by omega, Int.natCast_emod]
      rw [e]
      refine a_ixTI s2 (Nat.mod_lt _ ll.1) ?_
      unfold wt at h
      rw [if_neg (by omega)] at h
      exact h

/-! ### powers_of -/
def sp_powers_of : Sp := fun vs H Q _ => ∃ (B d : Nat), vs = [.int B, .int d] ∧ B ≤ 256 ∧ (1 ≤ d ∧ d ≤ 100) ∧
  ∀ (p q : Addr) (n a : Nat) (H' : Hp), Own H [(p, .tup [.ref q, .int a]), (q, .lst ((PL B d n).map V.int))] H' → PowOf B d n a → Q (.ref p) H'
theorem ok_powers_of (T : Txt K mg Z) : FnOk P w K mg base CX0 1 Z.f_powers_of Z.d_powers_of p_powers_of sp_powers_of := by
  refine T.F_powers_of.ok sc_powers_of (fun vs H Q E h => ?_) (fun cdv A outer s H vs Q E hr h => ?_)
  · obtain ⟨_, _, rfl, _⟩ := h; rfl
  · obtain ⟨B, d, rfl, hB, ⟨hd1, hd2⟩, h⟩ := h
    have O := Own.refl H
    refine ⟨_, (pss_cons (ps_par (i := 2) (j := 3) (by rfl) sc_powers_of.nd rfl rfl (by decide) rfl rfl (pa_cons (pe_lst pa_nil) (pa_cons (pe_op op_mod pe_int (pv 1)) pa_nil)) (by rfl))
    (pss_cons (ps_while PassesOwn.never (pt_cmpR (r := rIn K true) op_notIn_seq (pv 3) (pv 2) (by rfl))
    (pss_cons (ps_expr (pe_bm PySem.F.plainAttrs_list PySem.F.slot_list_append PySem.F.type_list_append mt_append (pv 2) (pa_cons (pv 3) pa_nil)))
    (pss_one (ps_set (i := 3) sc_powers_of.nd rfl (Or.inl rfl) (pe_op op_mod (pe_op op_mulX (pv 3) (pv 0)) (pv 1))))))
    (pss_one (ps_ret (pe_tup (pa_cons (pv 2) (pa_cons (pe_bm PySem.F.plainAttrs_list PySem.F.slot_list_index PySem.F.type_list_index mt_index (pv 2) (pa_cons (pv 3) pa_nil)) pa_nil))))))), ?_⟩
    walk_at "g"; walk_at "mkL"; intro q H1 hq O
    walk_at "g"
    rw [pw_zero]
    refine a_while (fun m σ H' => ∃ n : Nat, σ = [some (.int B), some (.int d), some (.ref q), some (.int ((pw B d n : Nat) : Int))] ∧ Own H [(q, .lst ((PL B d n).map V.int))] H' ∧ (∀ i j, i < j → j < n → pw B d i ≠ pw B d j) ∧ m = d - n) ⟨_, 0, rfl, O, fun i j _ h => absurd h (Nat.not_lt_zero _), rfl⟩ ?_
    clear O
    rintro m σ H' ⟨n, rfl, O, dis, rfl⟩
    have nd := pw_few (B := B) (show 0 < d by omega) dis
    walk_at "g"
    refine a_ninI (Own.sq O 0 rfl) ?_
    walk_at "g"
    refine a_ni2 (fun c => ?_) (fun c => ?_)
    · walk_at "g"
      obtain ⟨j, hj, hm⟩ := first_in c
      have jn : j < n := by
        have := (List.getElem?_eq_some_iff.mp hj).1
        rw [PL_len] at this; exact this
      rw [PL_at jn] at hj
      have e : pw B d j = pw B d n := by have := Option.some.inj hj; omega
      refine ⟨.inl ⟨rfl, _, Own.sq O 0 rfl⟩, ?_⟩
      walk_at "g"
      refine a_indexI (Own.sq O 0 rfl) (j := j) (by rw [PL_at jn, e]) hm ?_
      walk_at "g"; walk_at "mkT"; intro p H2 hp O
      walk_at "g"
      exact h p q n j H2 O ⟨jn, e, dis⟩
    · refine a_turn ?_
      have dis2 : ∀ i j, i < j → j < n + 1 → pw B d i ≠ pw B d j := fun i j hij hj e => by
        by_cases z : j = n
        · subst z
          exact c (List.mem_of_getElem? (i := i) (by rw [PL_at hij, e]))
        · exact dis i j hij (by omega) e
      have nd2 := pw_few (B := B) (show 0 < d by omega) dis2
      walk_at "g"
      refine ⟨.inl ⟨rfl, _, Own.sq O 0 rfl⟩, ?_⟩
      walk_at "g"
      refine a_app O 0 rfl (by rw [List.length_map, PL_len]; omega) (fun H2 O => ?_)
      walk_at "g"
      refine ⟨d - (n + 1), by omega, n + 1, ?_, ?_, dis2, rfl⟩
      · rw [pw_next]; rfl
      · rw [PL_succ, List.map_append]
        exact O

/-! ### look_of -/
-- @NEEDS Sum_init powers_of common
/-- the block of a sum as a natural number -/
def blkN (b k : Int) : Nat := (b ^ k.toNat).toNat
theorem blkN_is {b k : Int} (hb : 2 ≤ b ∧ b ≤ 16) (hk : 1 ≤ k ∧ k ≤ 2) : b ^ k.toNat = ((blkN b k : Nat) : Int) ∧ 2 ≤ blkN b k ∧ blkN b k ≤ 256 := by
  have bs := blockS hb hk
  unfold blkN
  omega
def sp_look_of (Z : Adr) : Sp := fun vs H Q _ => ∃ (a : Addr) (b k : Int) (f l : List Int) (d : Nat), vs = [.ref a, .int d] ∧ SumAt Z H a b k f l ∧ (1 ≤ d ∧ d ≤ 30) ∧
  ∀ (n i : Nat) (H' : Hp), Same H H' → PowOf (blkN b k) d n i → Q (.int (lookN f l n i : Nat)) H'
theorem ok_look_of (T : Txt K mg Z) : FnOk P w K mg base CX0 2 Z.f_look_of Z.d_look_of p_look_of (sp_look_of Z) := by
  refine T.F_look_of.ok sc_look_of (fun vs H Q E h => ?_) (fun cdv A outer s H vs Q E hr h => ?_)
  · obtain ⟨_, _, _, _, _, _, rfl, _⟩ := h; rfl
  · obtain ⟨a, b, k, f, l, d, rfl, ha, ⟨hd1, hd2⟩, h⟩ := h
    obtain ⟨bN, b2, b256⟩ := blkN_is ha.1.hb ha.1.hk
    have O := Own.refl H
    refine ⟨_, (pss_cons (ps_asg (pe_call (ok_powers_of T) (hr.mono (by decide)) rfl T.g_powers_of T.F_powers_of.kp T.b_powers_of .nil pass0 (pa_cons (pe_fld (pv 0) rfl) (pa_cons (pv 1) pa_nil))) (pg_tup rfl (pgs_cons (pg_name (i := 2) sc_look_of.nd rfl (Or.inl rfl)) (pgs_cons (pg_name (i := 3) sc_look_of.nd rfl (Or.inl rfl)) pgs_nil))))
    (pss_cons (ps_set (i := 4) sc_look_of.nd rfl (Or.inl rfl) (pe_op op_sub (pe_callB (r := R.rLen K) call_lenR (by rfl) T.n_len boot_len (pa_cons (pv 2) pa_nil)) (pv 3)))
    (pss_cons (ps_set (i := 5) sc_look_of.nd rfl (Or.inl rfl) (pe_op op_fdivW (pe_op op_mulX (pv 4) (pe_callB (r := R.rLen K) call_lenR (by rfl) T.n_len boot_len (pa_cons (pe_fld (pv 0) rfl) pa_nil))) (pe_call (ok_common T) (hr.mono (by decide)) rfl T.g_common T.F_common.kp T.b_common .nil pass0 (pa_cons (pv 4) (pa_cons (pe_callB (r := R.rLen K) call_lenR (by rfl) T.n_len boot_len (pa_cons (pe_fld (pv 0) rfl) pa_nil)) pa_nil)))))
    (pss_one (ps_ret (pe_op op_add (pe_callB (call_max2 rfl) (by rfl) T.n_max boot_max (pa_cons (pv 3) (pa_cons (pe_callB (r := R.rLen K) call_lenR (by rfl) T.n_len boot_len (pa_cons (pe_fld (pv 0) rfl) pa_nil)) pa_nil))) (pv 5))))))), ?_⟩
    walk_at "g"
    refine getS_block T ha ?_
    rw [bN]
    walk_at "g"
    refine ⟨blkN b k, d, rfl, b256, ⟨hd1, by omega⟩, fun p q n i H1 O po => ?_⟩
    have ha := ha.same O.st
    refine a_gtup (Own.tq O 0 rfl) rfl ?_
    walk_at "g"
    rw [List.length_map, PL_len]
    have il := po.lt
    have nl := po.le (by omega)
    have ll := ha.1.hl
    have fl := ha.1.hf
    refine getS_again T ha (fun p2 s2 => ?_)
    walk_at "g"
    rw [List.length_map]
    refine getS_again T ha (fun p3 s3 => ?_)
    walk_at "g"
    rw [List.length_map]
    have g0 : 0 < Nat.gcd (n - i) l.length := Nat.gcd_pos_of_pos_left _ (by omega)
    have g1 : Nat.gcd (n - i) l.length ≤ n - i := Nat.gcd_le_left _ (by omega)
    rw [show ((n : Int) - (i : Int)) = ((n - i : Nat) : Int) by omega, show Int.gcd ((n - i : Nat) : Int) (l.length : Int) = Nat.gcd (n - i) l.length from rfl]
    refine a_I (divW (by omega) (by omega)) ?_
    rw [show ((n - i : Nat) : Int) * (l.length : Int) / ((Nat.gcd (n - i) l.length : Nat) : Int) = ((Nat.lcm (n - i) l.length : Nat) : Int) by
      rw [← Int.natCast_mul, ← Int.natCast_ediv]; rfl]
    have hh := h n i H1 O.st po
    unfold lookN at hh
    generalize Nat.lcm (n - i) l.length = m at *
    walk_at "g"
    refine getS_begun T ha (fun p4 s4 => ?_)
    walk_at "g"
    rw [List.length_map]
    refine ⟨_, _, rfl, ?_⟩
    walk_at "g"
    rw [show (if (f.length : Int) > (i : Int) then (f.length : Int) else (i : Int)) + (m : Int) = ((max i f.length + m : Nat) : Int) by
      split <;> omega]
    exact hh

/-! ### longer -/
-- @NEEDS Sum_init weight_at power look_of
def sp_longer (Z : Adr) : Sp := fun vs H Q _ => ∃ (a : Addr) (b k : Int) (f l : List Int) (d i : Nat) (p : Addr) (ps : List (Int × Int)), vs = [.ref a, .int d, .ref p, .int i] ∧ SumAt Z H a b k f l ∧ (1 ≤ d ∧ d ≤ 30) ∧ i < 2 ^ 62 ∧ H p = some (PDS ps) ∧ LayOk (blkN b k) d f l i ps ∧
  ∀ (r : Addr) (qs : List (Int × Int)) (H' : Hp), Same H H' → H r = none → H' r = some (PDS qs) → LayOk (blkN b k) d f l (i + 1) qs → Q (.ref r) H'
theorem ok_longer (T : Txt K mg Z) : FnOk P w K mg base CX0 2 Z.f_longer Z.d_longer p_longer (sp_longer Z) := by
  refine T.F_longer.ok sc_longer (fun vs H Q E h => ?_) (fun cdv A outer s H vs Q E hr h => ?_)
  · obtain ⟨_, _, _, _, _, _, _, _, _, rfl, _⟩ := h; rfl
  · obtain ⟨a, b, k, f, l, d, i, p, ps, rfl, ha, ⟨hd1, hd2⟩, hi, hp, lay, h⟩ := h
    obtain ⟨bN, b2, b256⟩ := blkN_is ha.1.hb ha.1.hk
    have pl := lay.few (by omega)
    have dd : d * d ≤ 30 * 30 := Nat.mul_le_mul hd2 hd2
    have few := fun q => rch_few (B := blkN b k) (d := d) (f := f) (l := l) (i := i) (q := q) b2 (by omega)
    have O := Own.refl H
    refine ⟨_, (pss_cons (ps_set (i := 4) sc_longer.nd rfl (Or.inl rfl) pe_dnewT)
    (pss_cons (ps_par (i := 5) (j := 6) (by rfl) sc_longer.nd rfl rfl (by decide) rfl rfl (pa_cons (pe_op op_mod (pe_call (ok_power T) (hr.mono (by decide)) rfl T.g_power T.F_power.kp T.b_power .nil pass0 (pa_cons (pe_fld (pv 0) rfl) (pa_cons (pv 3) pa_nil))) (pv 1)) (pa_cons (pe_op op_mod (pe_call (ok_weight_at T) (hr.mono (by decide)) rfl T.g_weight_at T.F_weight_at.kp T.b_weight_at .nil pass0 (pa_cons (pv 0) (pa_cons (pv 3) pa_nil))) (pv 1)) pa_nil)) (by rfl))
    (pss_cons (ps_lock (ps_for PassesOwn.never rfl (pi_keys (pv 2)) (pg_tup rfl (pgs_cons (pg_name (i := 7) sc_longer.nd rfl (Or.inl rfl)) (pgs_cons (pg_name (i := 8) sc_longer.nd rfl (Or.inl rfl)) pgs_nil)))
    (pss_one (ps_for PassesOwn.never rfl (pi_range1 rfl T.n_range (pa_cons (pe_callB (call_min2 rfl) (by rfl) T.n_min boot_min (pa_cons (pe_fld (pv 0) rfl) (pa_cons (pv 1) pa_nil))) pa_nil)) (pg_name (i := 9) sc_longer.nd rfl (Or.inl rfl))
    (pss_one (ps_dput (hu_of hr) (pv 4) (pe_tup (pa_cons (pe_op op_mod (pe_op op_add (pv 7) (pe_op op_mulX (pv 9) (pv 5))) (pv 1)) (pa_cons (pe_op op_mod (pe_op op_add (pv 8) (pe_op op_mulX (pv 9) (pv 6))) (pv 1)) pa_nil))) pe_bl rfl))))))
    (pss_one (ps_ret (pv 4)))))), ?_⟩
    walk_at "g"
    intro D hD
    replace O := Own.new (o := PDS []) O hD
    walk_at "g"
    refine getS_block T (ha.same O.st) ?_
    rw [bN]
    walk_at "g"
    refine ⟨a, b, k, f, l, i, rfl, ha.same O.st, ?_⟩
    walk_at "g"
    rw [show ((i : Int)).toNat = i by omega, ← Int.natCast_pow]
    have hu1 : 0 ≤ ((blkN b k ^ i : Nat) : Int) % d ∧ ((blkN b k ^ i : Nat) : Int) % d < d := ⟨Int.emod_nonneg _ (by omega), Int.emod_lt_of_pos _ (by omega)⟩
    have hw1 : 0 ≤ wt f l i % d ∧ wt f l i % d < d := ⟨Int.emod_nonneg _ (by omega), Int.emod_lt_of_pos _ (by omega)⟩
    generalize hu : ((blkN b k ^ i : Nat) : Int) % d = u at *
    generalize hw : wt f l i % d = w at *
    refine a_lockS O hp (fun od H1 O => ?_)
    walk_at "g"
    have hne : a ≠ p := fun e => by
      obtain ⟨_, dx, p1, p2, h2, _⟩ := ha
      rw [e, hp] at h2
      cases h2
    have haB : ∀ H', Same (del1 H p) H' → SumAt Z H' a b k f l := fun H' s => by
      obtain ⟨so, dx, p1, p2, h2, h3, h4⟩ := ha
      have n1 : p1 ≠ p := fun e => by rw [e, hp] at h3; cases h3
      have n2 : p2 ≠ p := fun e => by rw [e, hp] at h4; cases h4
      exact ⟨so, dx, p1, p2, s _ _ (by rw [del1_ne hne]; exact h2), s _ _ (by rw [del1_ne n1]; exact h3), s _ _ (by rw [del1_ne n2]; exact h4)⟩
    refine ⟨p, od, rfl, .inr ⟨ps.map ent, O.get 0 rfl, ?_⟩⟩
    refine for_it walk_keysT (fun j σ H' => ∃ (qs : List (Int × Int)) (Lw : List (Addr × HO)) (v7 v8 v9 : Option V), σ = [some (.ref a), some (.int (d : Nat)), some (.ref p), some (.int (i : Nat)), some (.ref D), some (.int u), some (.int w), v7, v8, v9] ∧
      Own (del1 H p) ((p, .frz od (PDS ps)) :: (D, PDS qs) :: Lw) H' ∧ qs.Nodup ∧ qs.length ≤ 30 * j ∧ ∀ q, q ∈ qs ↔ ∃ r ∈ ps.take j, ∃ x, x < min (blkN b k) d ∧ q = stepP d u w r x) ⟨[], [], _, _, _, rfl, O, List.nodup_nil, Nat.le_refl 0, fun q => by simp⟩ (fun j σ H' _ ⟨_, _, _, _, _, _, O, _⟩ => O.get 0 rfl) ?_ ?_
    · clear O
      rintro j x σ H1 H' hj ⟨qs, Lw, v7, v8, v9, rfl, O, nd, ql, mem⟩ hy
      rw [List.length_map] at hj
      obtain ⟨rfl, jl, q0, rfl, hq0⟩ := key_at hy
      refine a_gtup (SqT.of hq0) rfl ?_
      walk_at "g"
      refine getS_block T (haB _ O.st) ?_
      rw [bN]
      walk_at "g"
      refine ⟨_, _, rfl, ?_⟩
      rw [show (if (d : Int) < ((blkN b k : Nat) : Int) then (d : Int) else ((blkN b k : Nat) : Int)) = ((min (blkN b k) d : Nat) : Int) by split <;> omega]
      walk_at "g"
      refine for_range (fun m σ H' => ∃ (qs : List (Int × Int)) (Lw : List (Addr × HO)) (v9 : Option V), σ = [some (.ref a), some (.int (d : Nat)), some (.ref p), some (.int (i : Nat)), some (.ref D), some (.int u), some (.int w), some (.int ps[j].1), some (.int ps[j].2), v9] ∧
        Own (del1 H p) ((p, .frz od (PDS ps)) :: (D, PDS qs) :: Lw) H' ∧ qs.Nodup ∧ qs.length ≤ 30 * j + m ∧ ∀ q, q ∈ qs ↔ (∃ r ∈ ps.take j, ∃ x, x < min (blkN b k) d ∧ q = stepP d u w r x) ∨ ∃ x, x < m ∧ q = stepP d u w ps[j] x) ⟨qs, Lw, _, rfl, O, nd, ql, fun q => by rw [mem q]; simp⟩ ?_ ?_
      · clear O nd ql mem
        rintro m σ H' hm ⟨qs, Lw, v9, rfl, O, nd, ql, mem⟩
        have hm : m < min (blkN b k) d := by omega
        rw [show (0 : Int) + (m : Int) = (m : Int) by omega]
        walk_at "g"; walk_at "mkT"; intro t H2 ht O
        walk_at "g"
        refine a_putP (q := stepP d u w ps[j] m) O 2 rfl (O.get 0 rfl) (by omega) _ (fun H3 O => ?_)
        simp only [List.set] at O
        refine ⟨addP qs (stepP d u w ps[j] m), (t, .tup [.int ((ps[j].1 + m * u) % d), .int ((ps[j].2 + m * w) % d)]) :: Lw, some (.int m), rfl, ?_, addP_nodup nd, by have := addP_len qs (stepP d u w ps[j] m); omega, fun q => ?_⟩
        · exact O.perm (List.perm_append_comm (l₁ := [(p, _), (D, _)]) (l₂ := [(t, _)]) |>.append_right Lw)
        · rw [addP_mem, mem q, or_assoc]
          refine or_congr Iff.rfl ⟨?_, ?_⟩
          · rintro (⟨x, hx, e⟩ | e)
            · exact ⟨x, by omega, e⟩
            · exact ⟨m, by omega, e⟩
          · rintro ⟨x, hx, e⟩
            by_cases c : x = m
            · subst c; exact .inr e
            · exact .inl ⟨x, by omega, e⟩
      · clear O nd ql mem
        rintro σ H' ⟨qs, Lw, v9, rfl, O, nd, ql, mem⟩
        walk_at "g"
        refine ⟨qs, Lw, _, _, _, rfl, O, nd, by omega, fun q => ?_⟩
        rw [mem q, List.take_succ, List.getElem?_eq_getElem jl]
        constructor
        · rintro (⟨r, hr, x, hx, e⟩ | ⟨x, hx, e⟩)
          · exact ⟨r, List.mem_append.mpr (.inl hr), x, hx, e⟩
          · exact ⟨ps[j], List.mem_append.mpr (.inr (by simp)), x, by omega, e⟩
        · rintro ⟨r, hr, x, hx, e⟩
          rcases List.mem_append.mp hr with hr | hr
          · exact .inl ⟨r, hr, x, hx, e⟩
          · have hr : r = ps[j] := by simpa using hr
            subst hr
            exact .inr ⟨x, by omega, e⟩
    · clear O
      rintro σ H' ⟨qs, Lw, v7, v8, v9, rfl, O, nd, ql, mem⟩
      rw [List.length_map, List.take_length] at mem
      refine ⟨O.get 0 rfl, ?_⟩
      have O2 := Own.back O hp
      walk_at "g"
      refine h D qs _ O2.st (O2.no (D, _) List.mem_cons_self) (O2.get 0 rfl) ⟨nd, fun q => ?_⟩
      rw [mem q, few q]
      constructor
      · rintro ⟨r, hr, x, hx, e⟩
        exact ⟨r, (lay.2 r).mp hr, x, hx, e⟩
      · rintro ⟨r, hr, x, hx, e⟩
        exact ⟨r, (lay.2 r).mpr hr, x, hx, e⟩

/-! ### is_bad -/
def sp_is_bad : Sp := fun vs H Q _ => ∃ (p : Addr) (a b : Int), vs = [.ref p] ∧ H p = some (.tup [.int a, .int b]) ∧ Q (.bl (bad (a, b))) H
theorem ok_is_bad (T : Txt K mg Z) : FnOk P w K mg base CX0 1 Z.f_is_bad Z.d_is_bad p_is_bad sp_is_bad := by
  refine T.F_is_bad.ok sc_is_bad (fun vs H Q E h => ?_) (fun cdv A outer s H vs Q E hr h => ?_)
  · obtain ⟨_, _, _, rfl, _⟩ := h; rfl
  · obtain ⟨p, a, b, rfl, hp, h⟩ := h
    have s1 : SqT K H p [.int a, .int b] := SqT.of hp
    refine ⟨_, (pss_one (ps_ret (pe_cmpR op_ne (pe_cmpR op_eq (pe_ix (r := rIxT K) ix_tup (pv 0) pe_int (fun _ _ => rfl)) pe_int (nomark _)) (pe_cmpR op_eq (pe_ix (r := rIxT K) ix_tup (pv 0) pe_int (fun _ _ => rfl)) pe_int (nomark _)) (nomark _)))), ?_⟩
    walk_at "g"
    exact h

/-! ### layers_of -/
-- @NEEDS Sum_init look_of longer is_bad
/-- the layers one by one -/
def Lays (H : Hp) (B d : Nat) (f l : List Int) (rs : List Addr) : Prop := ∀ (i : Nat) (p : Addr), rs[i]? = some p → ∃ ps, H p = some (PDS ps) ∧ LayOk B d f l i ps
theorem Lays.same {B' H : Hp} {B d : Nat} {f l : List Int} {rs : List Addr} (s : Same B' H) (h : Lays B' B d f l rs) : Lays H B d f l rs := fun i p hp => by
  obtain ⟨ps, h1, h2⟩ := h i p hp
  exact ⟨ps, s _ _ h1, h2⟩
theorem Lays.snoc {H : Hp} {B d : Nat} {f l : List Int} {rs : List Addr} {p : Addr} {ps : List (Int × Int)} (h : Lays H B d f l rs) (hp : H p = some (PDS ps)) (ho : LayOk B d f l rs.length ps) : Lays H B d f l (rs ++ [p]) := fun i q hq => by
  by_cases c : i < rs.length
  · rw [List.getElem?_append_left c] at hq
    exact h i q hq
  · rw [List.getElem?_append_right (by omega)] at hq
    have z : i - rs.length = 0 := by
      by_cases z : i - rs.length = 0
      · exact z
      · rw [List.getElem?_eq_none (by rw [List.length_singleton]; omega)] at hq
        cases hq
    rw [z] at hq
    cases hq
    rw [show i = rs.length by omega]
    exact ⟨ps, hp, ho⟩
theorem at_lastR {rs : List Addr} {k : Nat} (h : rs.length = k + 1) : ∃ p, rs[k]? = some p ∧ atI (rs.map V.ref) (-1) = some (.ref p) := by
  have hk : k < rs.length := by omega
  refine ⟨rs[k], List.getElem?_eq_getElem hk, ?_⟩
  unfold atI
  rw [List.length_map, h]
  rw [show ixN (k + 1) (-1) = some k by unfold ixN; rw [if_neg (by omega), if_pos (by omega)]; exact congrArg some (by omega)]
  show (rs.map V.ref)[k]? = _
  rw [List.getElem?_map, List.getElem?_eq_getElem hk]; rfl
theorem at_backR {rs : List Addr} {k L : Nat} (h : rs.length = k + 1) (hL : L ≤ k) : ∃ p, rs[k - L]? = some p ∧ atI (rs.map V.ref) (-1 - (L : Int)) = some (.ref p) := by
  have hk : k - L < rs.length := by omega
  refine ⟨rs[k - L], List.getElem?_eq_getElem hk, ?_⟩
  unfold atI
  rw [List.length_map, h]
  rw [show ixN (k + 1) (-1 - (L : Int)) = some (k - L) by unfold ixN; rw [if_neg (by omega), if_pos (by omega)]; exact congrArg some (by omega)]
  show (rs.map V.ref)[k - L]? = _
  rw [List.getElem?_map, List.getElem?_eq_getElem hk]; rfl
def sp_layers_of (Z : Adr) : Sp := fun vs H Q _ => ∃ (a : Addr) (b k : Int) (f l : List Int) (d : Nat), vs = [.ref a, .int d] ∧ SumAt Z H a b k f l ∧ (1 ≤ d ∧ d ≤ 30) ∧
  ∀ (r : Addr) (rs : List Addr) (n : Nat) (H' : Hp), Same H H' → H' r = some (.lst (rs.map V.ref)) → rs.length = n + 1 → n ≤ 360000 → Lays H' (blkN b k) d f l rs → (∀ i q, i < n → Rch (blkN b k) d f l i q → bad q = false) →
    ((∃ q, Rch (blkN b k) d f l n q ∧ bad q = true) ∨ ((∀ q, Rch (blkN b k) d f l n q → bad q = false) ∧ ∀ m q, Rch (blkN b k) d f l m q → Rch (blkN b k) d f l n q)) → Q (.ref r) H'
theorem ok_layers_of (T : Txt K mg Z) : FnOk P w K mg base CX0 3 Z.f_layers_of Z.d_layers_of p_layers_of (sp_layers_of Z) := by
  refine T.F_layers_of.ok sc_layers_of (fun vs H Q E h => ?_) (fun cdv A outer s H vs Q E hr h => ?_)
  · obtain ⟨_, _, _, _, _, _, rfl, _⟩ := h; rfl
  · obtain ⟨a, b, k, f, l, d, rfl, ha, ⟨hd1, hd2⟩, h⟩ := h
    obtain ⟨bN, b2, b256⟩ := blkN_is ha.1.hb ha.1.hk
    have dd : d * d ≤ 30 * 30 := Nat.mul_le_mul hd2 hd2
    have O := Own.refl H
    refine ⟨_, (pss_cons (ps_par (i := 2) (j := 3) (by rfl) sc_layers_of.nd rfl rfl (by decide) rfl rfl (pa_cons (pe_lst (pa_cons (pe_disp1T (hu_of hr) (pe_tup (pa_cons pe_int (pa_cons pe_int pa_nil))) pe_bl) pa_nil)) (pa_cons (pe_call (ok_look_of T) (hr.mono (by decide)) rfl T.g_look_of T.F_look_of.kp T.b_look_of .nil pass0 (pa_cons (pv 0) (pa_cons (pv 1) pa_nil))) pa_nil)) (by rfl))
    (pss_cons (ps_while PassesOwn.never (pt_not (pt_val (pe_callB (r := rAny K) (cr_any rfl) (by rfl) T.n_any boot_any (pa_cons (pe_lock (pe_lc (own := [("pair", 4)]) (tt := tYes) rfl sc_layers_of.nd (pi_keys (pe_ix (r := rIxL K) ix_list (pv 2) (pe_un un_neg pe_int) (fun _ _ => rfl))) (blkOk_by (N := N_layers_of) (sc := defScope s_layers_of) (by decide +kernel)) (fun _ _ _ _ _ => (pg_name (i := 4) sc_layers_of.nd rfl (Or.inl rfl))) (fun _ _ _ _ _ => pts_nil) (fun _ _ _ _ _ => (pe_call (ok_is_bad T) (hr.mono (by decide)) rfl T.g_is_bad T.F_is_bad.kp T.b_is_bad .nil pass0 (pa_cons (pv 4) pa_nil))))) pa_nil))))
    (pss_cons (ps_if (PW.pt (pw_and (pt_cmpR op_gt (pe_callB (r := R.rLen K) call_lenR (by rfl) T.n_len boot_len (pa_cons (pv 2) pa_nil)) (pv 3) (nomark _)) (pw_and1 (pt_cmpR op_eq (pe_callB (r := L2.rLenT) call_len_dT (by rfl) T.n_len boot_len (pa_cons (pe_ix (r := rIxL K) ix_list (pv 2) (pe_un un_neg pe_int) (fun _ _ => rfl)) pa_nil)) (pe_callB (r := L2.rLenT) call_len_dT (by rfl) T.n_len boot_len (pa_cons (pe_ix (r := rIxL K) ix_list (pv 2) (pe_op op_sub (pe_un un_neg pe_int) (pv 3)) (fun _ _ => rfl)) pa_nil)) (nomark _))))) (pss_one (ps_ret (pv 2))) pss_nil)
    (pss_one (ps_expr (pe_bm PySem.F.plainAttrs_list PySem.F.slot_list_append PySem.F.type_list_append mt_append (pv 2) (pa_cons (pe_call (ok_longer T) (hr.mono (by decide)) rfl T.g_longer T.F_longer.kp T.b_longer .nil pass0 (pa_cons (pv 0) (pa_cons (pv 1) (pa_cons (pe_ix (r := rIxL K) ix_list (pv 2) (pe_un un_neg pe_int) (fun _ _ => rfl)) (pa_cons (pe_op op_sub (pe_callB (r := R.rLen K) call_lenR (by rfl) T.n_len boot_len (pa_cons (pv 2) pa_nil)) pe_int) pa_nil))))) pa_nil))))))
    (pss_one (ps_ret (pv 2))))), ?_⟩
    walk_at "g"
    intro p0 hp0
    replace O := Own.new (o := .dT []) O hp0
    walk_at "g"; walk_at "mkT"; intro t0 H1 ht0 O
    walk_at "g"
    refine ⟨t0, [.inl 0, .inl 0], rfl, O.get 1 rfl, O.get 0 rfl, ?_⟩
    replace O := Own.put (u := PDS [(0, 0)]) O 1 rfl
    simp only [List.set] at O
    walk_at "g"; walk_at "mkL"; intro r H2 hr O
    walk_at "g"
    refine ⟨a, b, k, f, l, d, rfl, ha.same O.st, ⟨hd1, hd2⟩, fun n0 i0 H3 s3 po => ?_⟩
    replace O := O.same s3
    have lk := look_le (f := f) (l := l) (by omega) po hd2 ha.1.hf ha.1.hl.2
    have L1 : 1 ≤ lookN f l n0 i0 := by
      have := Nat.lcm_pos (m := n0 - i0) (n := l.length) (by have := po.lt; omega) ha.1.hl.1
      unfold lookN
      omega
    have closed := fun j => rch_closed (B := blkN b k) (d := d) (f := f) (l := l) b2 ha.1.hl.1 po (j := j)
    generalize hL : lookN f l n0 i0 = L at *
    walk_at "g"
    obtain ⟨B1, s1, O, hf⟩ := Own.fixTo (New := [_, _]) (Lw := [(r, .lst [.ref p0])]) (O.perm (Lw' := [_, _, _]) (List.perm_append_comm (l₁ := [(t0, _), (p0, _)]) (l₂ := [(r, _)])))
    have hp0B : B1 p0 = some (PDS [(0, 0)]) := hf (p0, _) (by simp [PDS])
    refine a_while (fun m σ H' => ∃ (B2 : Hp) (n : Nat) (rs : List Addr), σ = [some (.ref a), some (.int (d : Nat)), some (.ref r), some (.int (L : Nat)), none] ∧ Own B2 [(r, .lst (rs.map V.ref))] H' ∧ Same H B2 ∧ rs.length = n + 1 ∧ Lays B2 (blkN b k) d f l rs ∧
      (∀ i q, i < n → Rch (blkN b k) d f l i q → bad q = false) ∧ (∀ i p ps, i < n → rs[i]? = some p → B2 p = some (PDS ps) → i / L + 1 ≤ ps.length) ∧ n ≤ 900 * L ∧ m = 900 * L + 1 - n) ⟨_, B1, 0, [p0], rfl, O, s1, rfl, ?_, fun i q hi => absurd hi (Nat.not_lt_zero i), fun i p ps hi => absurd hi (Nat.not_lt_zero i), Nat.zero_le _, rfl⟩ ?_
    · intro i p hp
      match i, hp with
      | 0, hp =>
        cases hp
        exact ⟨[(0, 0)], hp0B, by simp, fun q => by rw [rch_zero, List.mem_singleton]⟩
    clear O hf hp0B s1 s3
    rintro m σ H' ⟨B2, n, rs, rfl, O, sB, rl, lays, nob, gro, hn, rfl⟩
    obtain ⟨p, hp, hat⟩ := at_lastR rl
    obtain ⟨ps, hps, lay⟩ := lays n p hp
    have pl := lay.few (by omega)
    walk_at "g"
    refine a_lockE O hps (fun od H1 O => ?_)
    walk_at "g"
    refine a_ixL (Own.sq O 1 rfl) hat ?_
    refine ⟨p, od, rfl, .inr ⟨ps.map ent, O.get 0 rfl, fun D hD => ?_⟩⟩
    replace O := Own.new (o := .lst []) O hD
    refine lc_it walk_keysT (fun i H' => ∃ bs : List Bool, Own (del1 B2 p) [(D, .lst (bs.map V.bl)), (p, .frz od (PDS ps)), (r, .lst (rs.map V.ref))] H' ∧ bs.length = i ∧ bs.any id = (ps.take i).any bad) ⟨[], O, rfl, rfl⟩ (fun i H' _ ⟨_, O, _⟩ => O.get 1 rfl) ?_ ?_
    · clear O
      rintro i x H1 H' hi ⟨bs, O, bl, ba⟩ hy
      rw [List.length_map] at hi
      obtain ⟨rfl, il, q, rfl, hq⟩ := key_at hy
      walk_at "g"
      refine ⟨rfl, ?_⟩
      walk_at "g"
      refine ⟨q, _, _, rfl, hq, ?_⟩
      refine ⟨_, O.get 0 rfl, Nat.lt_of_lt_of_le (show _ < 20000 by rw [List.length_map]; omega) (by decide), ?_⟩
      refine ⟨bs ++ [bad ps[i]], ?_, by rw [List.length_append, bl]; rfl, ?_⟩
      · rw [List.map_append]
        exact Own.put O 0 rfl
      · rw [List.take_succ, List.getElem?_eq_getElem il, List.any_append, List.any_append, ba]
        simp
    clear O
    rintro H' ⟨bs, O, bl, ba⟩
    rw [List.length_map, List.take_length] at ba
    refine ⟨O.get 1 rfl, ?_⟩
    replace O := Own.back (O.swap) hps
    walk_at "g"
    refine ⟨D, bs, rfl, Own.sq O 0 rfl, ?_⟩
    rw [ba]
    replace O := O.tail
    have anyb : ps.any bad = true ↔ ∃ q, Rch (blkN b k) d f l n q ∧ bad q = true := by
      rw [List.any_eq_true]
      exact ⟨fun ⟨q, h1, h2⟩ => ⟨q, (lay.2 q).mp h1, h2⟩, fun ⟨q, h1, h2⟩ => ⟨q, (lay.2 q).mpr h1, h2⟩⟩
    walk_at "g"
    refine a_niB (fun e => ?_) (fun e => ?_)
    · walk_at "g"
      have n360 : n ≤ 360000 := by
        have : 900 * L ≤ 900 * 390 := Nat.mul_le_mul_left _ lk
        omega
      exact h r rs n _ (sB.trans O.st) (O.get 0 rfl) rl n360 (lays.same O.st) nob (.inl (anyb.mp e))
    · have nobn : ∀ q, Rch (blkN b k) d f l n q → bad q = false := fun q hq => by
        cases c : bad q with
        | false => rfl
        | true => rw [anyb.mpr ⟨q, hq, c⟩] at e; cases e
      have n360 : n ≤ 360000 := by
        have : 900 * L ≤ 900 * 390 := Nat.mul_le_mul_left _ lk
        omega
      refine a_turn ?_
      walk_at "g"
      rw [List.length_map, rl]
      have one : 1 ≤ ps.length := by
        have : ((0 : Int), (0 : Int)) ∈ ps := (lay.2 _).mpr (rch_le b2 (rch_zero.mpr rfl) n (Nat.zero_le _))
        exact List.length_pos_of_mem this
      have more : n / L + 1 ≤ ps.length → ∀ (p2 : Addr) (qs : List (Int × Int)) (H2 : Hp), Own B2 [(p2, PDS qs), (r, .lst ((rs ++ [p2]).map V.ref))] H2 → LayOk (blkN b k) d f l (n + 1) qs →
          ∃ (B2 : Hp) (n' : Nat) (rs : List Addr), Own B2 [(r, .lst (rs.map V.ref))] H2 ∧ Same H B2 ∧ rs.length = n' + 1 ∧ Lays B2 (blkN b k) d f l rs ∧
            (∀ i q, i < n' → Rch (blkN b k) d f l i q → bad q = false) ∧ (∀ i p ps, i < n' → rs[i]? = some p → B2 p = some (PDS ps) → i / L + 1 ≤ ps.length) ∧ n' ≤ 900 * L ∧ 900 * L + 1 - n' < 900 * L + 1 - n := fun hg p2 qs H2 O lq => by
        have O2 := O.fix
        have s2 := O.fixS
        have nlt : n < 900 * L := by
          have h1 : n / L < 900 := by omega
          exact (Nat.div_lt_iff_lt_mul (by omega)).mp h1
        refine ⟨_, n + 1, rs ++ [p2], O2, sB.trans s2, by rw [List.length_append, rl]; rfl, (lays.same s2).snoc upd_same (by rw [rl]; exact lq), fun i q hi hq => ?_, fun i p' ps' hi hp' hps' => ?_, by omega, by omega⟩
        · by_cases c : i = n
          · subst c; exact nobn q hq
          · exact nob i q (by omega) hq
        · rw [List.getElem?_append_left (by omega)] at hp'
          by_cases c : i = n
          · subst c
            rw [hp] at hp'
            cases hp'
            rw [s2 _ _ hps] at hps'
            have e : ps.map ent = ps'.map ent := by
              have z : PDS ps = PDS ps' := Option.some.inj hps'
              unfold PDS at z
              injection z
            have e2 := congrArg List.length e
            rw [List.length_map, List.length_map] at e2
            omega
          · obtain ⟨ps2, g1, g2⟩ := lays i p' hp'
            rw [s2 _ _ g1] at hps'
            have e : ps2.map ent = ps'.map ent := by
              have z : PDS ps2 = PDS ps' := Option.some.inj hps'
              unfold PDS at z
              injection z
            have e2 := congrArg List.length e
            rw [List.length_map, List.length_map] at e2
            have := gro i p' ps2 (by omega) hp' g1
            omega
      refine a_it2 (fun c => ?_) (fun c => ?_)
      · obtain ⟨p', hp', hat'⟩ := at_backR (L := L) rl (by omega)
        obtain ⟨ps', hps', lay'⟩ := lays _ p' hp'
        walk_at "g"
        refine a_ixL (Own.sq O 0 rfl) hat ?_
        walk_at "g"
        refine a_lenP (O.st _ _ hps) ?_
        walk_at "g"
        refine a_ixL (Own.sq O 0 rfl) hat' ?_
        walk_at "g"
        refine a_lenP (O.st _ _ hps') ?_
        walk_at "g"
        have sub : ∀ q, q ∈ ps' → q ∈ ps := fun q hq => (lay.2 q).mpr (rch_le b2 ((lay'.2 q).mp hq) n (by omega))
        have le' := nodup_leG lay'.1 sub
        have g' : (n - L) / L + 1 ≤ ps'.length := gro _ p' ps' (by omega) hp' hps'
        have ed : n / L = (n - L) / L + 1 := by rw [← Nat.add_div_right _ (by omega)]; congr 1; omega
        refine a_it2 (fun c2 => ?_) (fun c2 => ?_)
        · walk_at "g"
          have cl := closed (n - L) (by
            rw [show n - L + L = n by omega]
            intro q hq
            exact (lay'.2 q).mp (nodup_full lay'.1 sub (by omega) q ((lay.2 q).mpr hq)))
          rw [show n - L + L = n by omega] at cl
          exact h r rs n _ (sB.trans O.st) (O.get 0 rfl) rl n360 (lays.same O.st) nob (.inr ⟨nobn, cl⟩)
        · walk_at "g"
          refine ⟨.inl ⟨rfl, _, Own.sq O 0 rfl⟩, ?_⟩
          walk_at "g"
          refine a_ixL (Own.sq O 0 rfl) hat ?_
          walk_at "g"
          rw [List.length_map, rl]
          refine ⟨a, b, k, f, l, d, n, p, ps, by simp, (ha.same sB).same O.st, ⟨hd1, hd2⟩, Nat.lt_of_le_of_lt n360 (by decide), O.st _ _ hps, lay, fun p2 qs H5 s5 hp2 hq2 lq => ?_⟩
          replace O := O.got s5 hp2 hq2
          walk_at "g"
          refine a_app O 1 rfl (by rw [List.length_map]; omega) (fun H6 O => ?_)
          simp only [List.set] at O
          rw [show rs.map V.ref ++ [.ref p2] = (rs ++ [p2]).map V.ref by rw [List.map_append]; rfl] at O
          walk_at "g"
          obtain ⟨B3, n', rs', g1, g2, g3, g4, g5, g6, g7, g8⟩ := more (by omega) p2 qs H6 O lq
          exact ⟨_, g8, B3, n', rs', rfl, g1, g2, g3, g4, g5, g6, g7, rfl⟩
      · walk_at "g"
        refine ⟨.inl ⟨rfl, _, Own.sq O 0 rfl⟩, ?_⟩
        walk_at "g"
        refine a_ixL (Own.sq O 0 rfl) hat ?_
        walk_at "g"
        rw [List.length_map, rl]
        refine ⟨a, b, k, f, l, d, n, p, ps, by simp, (ha.same sB).same O.st, ⟨hd1, hd2⟩, Nat.lt_of_le_of_lt n360 (by decide), O.st _ _ hps, lay, fun p2 qs H5 s5 hp2 hq2 lq => ?_⟩
        replace O := O.got s5 hp2 hq2
        walk_at "g"
        refine a_app O 1 rfl (by rw [List.length_map]; omega) (fun H6 O => ?_)
        simp only [List.set] at O
        rw [show rs.map V.ref ++ [.ref p2] = (rs ++ [p2]).map V.ref by rw [List.map_append]; rfl] at O
        walk_at "g"
        obtain ⟨B3, n', rs', g1, g2, g3, g4, g5, g6, g7, g8⟩ := more (by rw [Nat.div_eq_of_lt (by omega)]; omega) p2 qs H6 O lq
        exact ⟨_, g8, B3, n', rs', rfl, g1, g2, g3, g4, g5, g6, g7, rfl⟩

/-! ### can_be_bad -/
-- @NEEDS is_bad
def sp_can_be_bad : Sp := fun vs H Q _ => ∃ (r o : Int) (p : Addr) (d : Nat) (ps : List (Int × Int)), vs = [.int r, .int o, .ref p, .int d] ∧ 0 < d ∧ H p = some (PDS ps) ∧ ps.length ≤ 10000 ∧
  ∀ H', Same H H' → Q (.bl (ps.any fun q => bad ((r + q.1) % d, (o + q.2) % d))) H'
theorem ok_can_be_bad (T : Txt K mg Z) : FnOk P w K mg base CX0 2 Z.f_can_be_bad Z.d_can_be_bad p_can_be_bad sp_can_be_bad := by
  refine T.F_can_be_bad.ok sc_can_be_bad (fun vs H Q E h => ?_) (fun cdv A outer s H vs Q E hr h => ?_)
  · obtain ⟨_, _, _, _, _, rfl, _⟩ := h; rfl
  · obtain ⟨r, o, p, d, ps, rfl, hd, hp, hl, h⟩ := h
    have O := Own.refl H
    refine ⟨_, (pss_one (ps_ret (pe_callB (r := rAny K) (cr_any rfl) (by rfl) T.n_any boot_any (pa_cons (pe_lock (pe_lc (own := [("one", 4), ("two", 5)]) (tt := tYes) rfl sc_can_be_bad.nd (pi_keys (pv 2)) (blkOk_by (N := N_can_be_bad) (sc := defScope s_can_be_bad) (by decide +kernel)) (fun _ _ _ _ _ => (pg_tupK (K := K) (n := 2) rfl (pgs_cons (pg_name (i := 4) sc_can_be_bad.nd rfl (Or.inl rfl)) (pgs_cons (pg_name (i := 5) sc_can_be_bad.nd rfl (Or.inl rfl)) pgs_nil)))) (fun _ _ _ _ _ => pts_nil) (fun _ _ _ _ _ => (pe_call (ok_is_bad T) (hr.mono (by decide)) rfl T.g_is_bad T.F_is_bad.kp T.b_is_bad .nil pass0 (pa_cons (pe_tup (pa_cons (pe_op op_mod (pe_op op_add (pv 0) (pv 4)) (pv 3)) (pa_cons (pe_op op_mod (pe_op op_add (pv 1) (pv 5)) (pv 3)) pa_nil))) pa_nil))))) pa_nil)))), ?_⟩
    walk_at "g"
    refine a_lockE O hp (fun od H1 O => ?_)
    walk_at "g"
    refine ⟨p, od, rfl, .inr ⟨ps.map ent, O.get 0 rfl, fun D hD => ?_⟩⟩
    replace O := Own.new (o := .lst []) O hD
    refine lc_it walk_keysT (fun i H' => ∃ (bs : List Bool) (Lw : List (Addr × HO)), Own (del1 H p) ((D, .lst (bs.map V.bl)) :: (p, .frz od (PDS ps)) :: Lw) H' ∧ bs.length = i ∧ bs.any id = (ps.take i).any fun q => bad ((r + q.1) % d, (o + q.2) % d)) ⟨[], [], O, rfl, rfl⟩ (fun i H' _ ⟨_, _, O, _⟩ => O.get 1 rfl) ?_ ?_
    · clear O
      rintro i x H1 H' hi ⟨bs, Lw, O, bl, ba⟩ hy
      rw [List.length_map] at hi
      obtain ⟨rfl, il, q, rfl, hq⟩ := key_at hy
      refine a_gtup (SqT.of hq) rfl ?_
      walk_at "g"
      refine ⟨rfl, ?_⟩
      walk_at "g"; walk_at "mkT"; intro t H2 ht O
      walk_at "g"
      refine ⟨t, _, _, rfl, O.get 0 rfl, ?_⟩
      refine ⟨_, O.get 1 rfl, Nat.lt_of_lt_of_le (show _ < 20000 by rw [List.length_map]; omega) (by decide), ?_⟩
      refine ⟨bs ++ [bad ((r + ps[i].1) % d, (o + ps[i].2) % d)], (t, .tup [.int ((r + ps[i].1) % d), .int ((o + ps[i].2) % d)]) :: Lw, ?_, by rw [List.length_append, bl]; rfl, ?_⟩
      · rw [List.map_append]
        exact (Own.put O 1 rfl).perm (List.perm_append_comm (l₁ := [(D, _), (p, _)]) (l₂ := [(t, _)]) |>.append_right Lw)
      · rw [List.take_succ, List.getElem?_eq_getElem il, List.any_append, List.any_append, ba]
        simp
    · clear O
      rintro H' ⟨bs, Lw, O, bl, ba⟩
      rw [List.length_map, List.take_length] at ba
      refine ⟨O.get 1 rfl, ?_⟩
      have O2 := Own.back (O.swap) hp
      walk_at "g"
      refine ⟨D, bs, rfl, Own.sq O2 0 rfl, ?_⟩
      rw [ba]
      walk_at "g"
      exact h _ O2.st

/-! ### first_fail -/
-- @NEEDS Sum_init layers_of can_be_bad power weight_at
def optN : Option Nat → V
  | none => .non
  | some n => .int n
def sp_su_fail (Z : Adr) : Sp := fun vs H Q _ => ∃ (a : Addr) (b k : Int) (f l : List Int) (d : Nat), vs = [.ref a, .int d] ∧ SumAt Z H a b k f l ∧ (1 ≤ d ∧ d ≤ 30) ∧
  ∀ (r : Option Nat) (H' : Hp), Same H H' → FstOf (badN (blkN b k) d f l) r → Q (optN r) H'
theorem ok_first_fail (T : Txt K mg Z) : FnOk P w K mg base CX0 4 Z.f_first_fail Z.d_first_fail p_first_fail (sp_su_fail Z) := by
  refine T.F_first_fail.ok sc_first_fail (fun vs H Q E h => ?_) (fun cdv A outer s H vs Q E hr h => ?_)
  · obtain ⟨_, _, _, _, _, _, rfl, _⟩ := h; rfl
  · obtain ⟨a, b, k, f, l, d, rfl, ha, ⟨hd1, hd2⟩, h⟩ := h
    obtain ⟨bN, b2, b256⟩ := blkN_is ha.1.hb ha.1.hk
    have dd : d * d ≤ 30 * 30 := Nat.mul_le_mul hd2 hd2
    refine ⟨_, (pss_cons (ps_set (i := 2) sc_first_fail.nd rfl (Or.inl rfl) (pe_call (ok_layers_of T) (hr.mono (by decide)) rfl T.g_layers_of T.F_layers_of.kp T.b_layers_of .nil pass0 (pa_cons (pv 0) (pa_cons (pv 1) pa_nil))))
    (pss_cons (ps_if (pt_not (pt_val (pe_callB (r := rAny K) (cr_any rfl) (by rfl) T.n_any boot_any (pa_cons (pe_lock (pe_lc (own := [("pair", 9)]) (tt := tYes) rfl sc_first_fail.nd (pi_keys (pe_ix (r := rIxL K) ix_list (pv 2) (pe_un un_neg pe_int) (fun _ _ => rfl))) (blkOk_by (N := N_first_fail) (sc := defScope s_first_fail) (by decide +kernel)) (fun _ _ _ _ _ => (pg_name (i := 9) sc_first_fail.nd rfl (Or.inl rfl))) (fun _ _ _ _ _ => pts_nil) (fun _ _ _ _ _ => (pe_call (ok_is_bad T) (hr.mono (by decide)) rfl T.g_is_bad T.F_is_bad.kp T.b_is_bad .nil pass0 (pa_cons (pv 9) pa_nil))))) pa_nil)))) (pss_one (ps_ret pe_non)) pss_nil)
    (pss_cons (ps_asg (pe_tup (pa_cons pe_int (pa_cons pe_int (pa_cons pe_int pa_nil)))) (pg_tup rfl (pgs_cons (pg_name (i := 3) sc_first_fail.nd rfl (Or.inl rfl)) (pgs_cons (pg_name (i := 4) sc_first_fail.nd rfl (Or.inl rfl)) (pgs_cons (pg_name (i := 5) sc_first_fail.nd rfl (Or.inl rfl)) pgs_nil)))))
    (pss_cons (ps_for PassesOwn.never rfl (pi_range3 rfl T.n_range (pa_cons (pe_op op_sub (pe_callB (r := R.rLen K) call_lenR (by rfl) T.n_len boot_len (pa_cons (pv 2) pa_nil)) pe_int) (pa_cons (pe_un un_neg pe_int) (pa_cons (pe_un un_neg pe_int) pa_nil)))) (pg_name (i := 6) sc_first_fail.nd rfl (Or.inl rfl))
    (pss_cons (ps_par (i := 7) (j := 8) (by rfl) sc_first_fail.nd rfl rfl (by decide) rfl rfl (pa_cons (pe_call (ok_power T) (hr.mono (by decide)) rfl T.g_power T.F_power.kp T.b_power .nil pass0 (pa_cons (pe_fld (pv 0) rfl) (pa_cons (pv 6) pa_nil))) (pa_cons (pe_call (ok_weight_at T) (hr.mono (by decide)) rfl T.g_weight_at T.F_weight_at.kp T.b_weight_at .nil pass0 (pa_cons (pv 0) (pa_cons (pv 6) pa_nil))) pa_nil)) (by rfl))
    (pss_one (ps_while PassesOwn.never (pt_not (pt_val (pe_call (ok_can_be_bad T) (hr.mono (by decide)) rfl T.g_can_be_bad T.F_can_be_bad.kp T.b_can_be_bad .nil pass0 (pa_cons (pv 4) (pa_cons (pv 5) (pa_cons (pe_ix (r := rIxL K) ix_list (pv 2) (pv 6) (fun _ _ => rfl)) (pa_cons (pv 1) pa_nil)))))))
    (pss_one (ps_par3 (i := 3) (j := 4) (l := 5) (by rfl) sc_first_fail.nd rfl rfl rfl (by decide) (by decide) (by decide) rfl rfl rfl (pa_cons (pe_op op_add (pv 3) (pv 7)) (pa_cons (pe_op op_add (pv 4) (pv 7)) (pa_cons (pe_op op_add (pv 5) (pv 8)) pa_nil))) (by rfl)))))))
    (pss_one (ps_ret (pv 3))))))), ?_⟩
    walk_at "g"
    refine ⟨a, b, k, f, l, d, rfl, ha, ⟨hd1, hd2⟩, fun r rs n B2 sB hr rl n360 lays nob ends => ?_⟩
    have ha := ha.same sB
    have O : Own B2 [] B2 := Own.refl B2
    obtain ⟨p, hp, hat⟩ := at_lastR rl
    obtain ⟨ps, hps, lay⟩ := lays n p hp
    have pl := lay.few (by omega)
    have hrp : r ≠ p := fun z => by rw [z, hps] at hr; cases hr
    walk_at "g"
    refine a_lockE O hps (fun od H1 O => ?_)
    walk_at "g"
    refine a_ixL (SqL.of (O.st _ _ (by rw [del1_ne hrp]; exact hr))) hat ?_
    refine ⟨p, od, rfl, .inr ⟨ps.map ent, O.get 0 rfl, fun D hD => ?_⟩⟩
    replace O := Own.new (o := .lst []) O hD
    refine lc_it walk_keysT (fun i H' => ∃ bs : List Bool, Own (del1 B2 p) [(D, .lst (bs.map V.bl)), (p, .frz od (PDS ps))] H' ∧ bs.length = i ∧ bs.any id = (ps.take i).any bad) ⟨[], O, rfl, rfl⟩ (fun i H' _ ⟨_, O, _⟩ => O.get 1 rfl) ?_ ?_
    · clear O
      rintro i x H1 H' hi ⟨bs, O, bl, ba⟩ hy
      rw [List.length_map] at hi
      obtain ⟨rfl, il, q, rfl, hq⟩ := key_at hy
      walk_at "g"
      refine ⟨rfl, ?_⟩
      walk_at "g"
      refine ⟨q, _, _, rfl, hq, ?_⟩
      refine ⟨_, O.get 0 rfl, Nat.lt_of_lt_of_le (show _ < 20000 by rw [List.length_map]; omega) (by decide), ?_⟩
      refine ⟨bs ++ [bad ps[i]], ?_, by rw [List.length_append, bl]; rfl, ?_⟩
      · rw [List.map_append]
        exact Own.put O 0 rfl
      · rw [List.take_succ, List.getElem?_eq_getElem il, List.any_append, List.any_append, ba]
        simp
    clear O
    rintro H' ⟨bs, O, bl, ba⟩
    rw [List.length_map, List.take_length] at ba
    refine ⟨O.get 1 rfl, ?_⟩
    replace O := Own.back (O.swap) hps
    walk_at "g"
    refine ⟨D, bs, rfl, Own.sq O 0 rfl, ?_⟩
    rw [ba]
    replace O := O.tail
    have anyb : ps.any bad = true ↔ ∃ q, Rch (blkN b k) d f l n q ∧ bad q = true := by
      rw [List.any_eq_true]
      exact ⟨fun ⟨q, h1, h2⟩ => ⟨q, (lay.2 q).mp h1, h2⟩, fun ⟨q, h1, h2⟩ => ⟨q, (lay.2 q).mpr h1, h2⟩⟩
    walk_at "g"
    refine a_niB (fun e => ?_) (fun e => ?_)
    rotate_left
    · -- none is bad
      walk_at "g"
      have nobn : ∀ q, Rch (blkN b k) d f l n q → bad q = false := fun q hq => by
        cases c : bad q with
        | false => rfl
        | true => rw [anyb.mpr ⟨q, hq, c⟩] at e; cases e
      rcases ends with ⟨q, h1, h2⟩ | ⟨_, cl⟩
      · rw [nobn q h1] at h2; cases h2
      · walk_at "g"
        exact h none _ (sB.trans O.st) (none_bad b2 cl nobn)
    · obtain ⟨q, ⟨m0, hm0, rfl⟩, hb0⟩ := anyb.mp e
      walk_at "g"; walk_at "mkT"; intro t0 H3 ht0 O
      refine a_gtup (Own.tq O 0 rfl) rfl ?_
      replace O := O.tail
      walk_at "g"
      refine a_len (.inl (SqL.of (O.st _ _ hr))) ?_
      walk_at "g"
      rw [List.length_map, rl]
      refine a_rngD (by omega) ?_
      rw [show (((n + 1 : Nat) : Int) - 2 - -1).toNat = n by omega]
      refine for_rangeC (fun i σ H' => ∃ (g : Nat) (v6 v7 v8 : Option V), σ = [some (.ref a), some (.int (d : Nat)), some (.ref r), some (.int ((g * blkN b k ^ (n - i) : Nat) : Int)), some (.int ((g * blkN b k ^ (n - i) : Nat) : Int)), some (.int (ttl (blkN b k) f l (g * blkN b k ^ (n - i)) n)), v6, v7, v8, none] ∧
        Own B2 [] H' ∧ g * blkN b k ^ (n - i) + blkN b k ^ (n - i) ≤ blkN b k ^ n ∧ (∃ m, m < blkN b k ^ (n - i) ∧ badN (blkN b k) d f l (g * blkN b k ^ (n - i) + m) = true) ∧ ∀ x, x < g * blkN b k ^ (n - i) → badN (blkN b k) d f l x = false) ⟨0, none, none, none, ?_, O.less (List.nil_sublist _), ?_, ?_, fun x hx => by rw [Nat.zero_mul] at hx; omega⟩ ?_ ?_
      · rw [Nat.zero_mul, ttl_zero]
        rfl
      · rw [Nat.zero_mul, Nat.zero_add]
        exact Nat.le_refl _
      · rw [Nat.sub_zero, Nat.zero_mul]
        exact ⟨m0, hm0, by rw [Nat.zero_add, badN_rch b2 hm0]; exact hb0⟩
      · clear O
        rintro i σ H' hi ⟨g, v6, v7, v8, rfl, O, le, ex, no⟩
        obtain ⟨e', he⟩ : ∃ e', n - i = e' + 1 := ⟨n - i - 1, by omega⟩
        rw [show ((n + 1 : Nat) : Int) - 2 + (i : Int) * -1 = (e' : Int) by omega]
        rw [show n - (i + 1) = e' by omega]
        rw [he] at le ex no ⊢
        have e'n : e' < n := by omega
        have hp' : 0 < blkN b k ^ e' := Nat.pow_pos (by omega)
        walk_at "g"
        have haO : ∀ {H'}, Own B2 [] H' → SumAt Z H' a b k f l := fun O => ha.same O.st
        refine getS_block T (haO O) ?_
        rw [bN]
        walk_at "g"
        refine ⟨a, b, k, f, l, e', rfl, haO O, ?_⟩
        walk_at "g"
        rw [show ((e' : Int)).toNat = e' by omega, ← Int.natCast_pow]
        have eg : ∀ x, g * blkN b k ^ (e' + 1) + x * blkN b k ^ e' = (g * blkN b k + x) * blkN b k ^ e' := fun x => by
          rw [Nat.add_mul, Nat.mul_assoc, ← Nat.pow_succ']
        have et : ∀ x, x < blkN b k → ttl (blkN b k) f l ((g * blkN b k + x) * blkN b k ^ e') n = ttl (blkN b k) f l (g * blkN b k ^ (e' + 1)) n + wt f l e' * x := fun x hx => by
          have lt : x * blkN b k ^ e' < blkN b k ^ (e' + 1) := by
            rw [Nat.pow_succ, Nat.mul_comm (blkN b k ^ e')]
            exact Nat.mul_lt_mul_of_pos_right hx hp'
          rw [← eg x, Nat.add_comm, ttl_add b2 lt n (by omega), ttl_one b2 hx n e'n]
        have hs : blkN b k * blkN b k ^ e' = blkN b k ^ (e' + 1) := by rw [Nat.pow_succ, Nat.mul_comm]
        have bd : ∀ x, x < blkN b k → (g * blkN b k + x) * blkN b k ^ e' + blkN b k ^ e' ≤ blkN b k ^ n := fun x hx => by
          rw [← eg x]
          have h1 : (x + 1) * blkN b k ^ e' ≤ blkN b k * blkN b k ^ e' := Nat.mul_le_mul_right _ (by omega)
          rw [Nat.add_mul, Nat.one_mul, hs] at h1
          omega
        refine a_while (fun m σ H' => ∃ x : Nat, σ = [some (.ref a), some (.int (d : Nat)), some (.ref r), some (.int (((g * blkN b k + x) * blkN b k ^ e' : Nat) : Int)), some (.int (((g * blkN b k + x) * blkN b k ^ e' : Nat) : Int)), some (.int (ttl (blkN b k) f l (g * blkN b k ^ (e' + 1)) n + wt f l e' * x)), some (.int (e' : Nat)), some (.int ((blkN b k ^ e' : Nat) : Int)), some (.int (wt f l e')), none] ∧
          Own B2 [] H' ∧ x < blkN b k ∧ (∃ m, x * blkN b k ^ e' ≤ m ∧ m < blkN b k ^ (e' + 1) ∧ badN (blkN b k) d f l (g * blkN b k ^ (e' + 1) + m) = true) ∧ (∀ y, y < (g * blkN b k + x) * blkN b k ^ e' → badN (blkN b k) d f l y = false) ∧ m = blkN b k - x) ⟨_, 0, ?_, O, by omega, ?_, ?_, rfl⟩ ?_
        · rw [← eg 0, Nat.zero_mul, Nat.add_zero]
          simp
        · obtain ⟨m, h1, h2⟩ := ex
          exact ⟨m, by omega, h1, h2⟩
        · rw [← eg 0, Nat.zero_mul, Nat.add_zero]
          exact no
        clear O
        rintro m σ H' ⟨x, rfl, O, hx, ⟨m1, hm1, hm2, hm3⟩, nox, rfl⟩
        have hek : rs[e']? = some rs[e'] := List.getElem?_eq_getElem (by omega)
        obtain ⟨ps', hps', lay'⟩ := lays e' _ hek
        have pl' := lay'.few (by omega)
        walk_at "g"
        refine a_ixL (SqL.of (O.st _ _ hr)) (at0 (j := e') rfl (by rw [List.getElem?_map, hek]; rfl)) ?_
        walk_at "g"
        refine ⟨_, _, rs[e'], d, ps', rfl, by omega, O.st _ _ hps', by omega, fun H5 s5 => ?_⟩
        replace O := O.same s5
        have cb := can_bad (B := blkN b k) (d := d) (f := f) (l := l) b2 (g := g * blkN b k + x) (i := e') (k := n) (by omega) (bd x hx)
        rw [et x hx] at cb
        have anyc : (ps'.any fun q => bad ((((((g * blkN b k + x) * blkN b k ^ e' : Nat) : Int)) + q.1) % d, (ttl (blkN b k) f l (g * blkN b k ^ (e' + 1)) n + wt f l e' * x + q.2) % d)) = true ↔ ∃ m, m < blkN b k ^ e' ∧ badN (blkN b k) d f l ((g * blkN b k + x) * blkN b k ^ e' + m) = true := by
          rw [← cb, List.any_eq_true]
          exact ⟨fun ⟨q, h1, h2⟩ => ⟨q, (lay'.2 q).mp h1, h2⟩, fun ⟨q, h1, h2⟩ => ⟨q, (lay'.2 q).mpr h1, h2⟩⟩
        walk_at "g"
        refine a_niB (fun ec => ?_) (fun ec => ?_)
        · refine ⟨g * blkN b k + x, some (.int (e' : Nat)), some (.int ((blkN b k ^ e' : Nat) : Int)), some (.int (wt f l e')), ?_, O, bd x hx, anyc.mp ec, nox⟩
          rw [et x hx]
        · have none_in : ∀ m, m < blkN b k ^ e' → badN (blkN b k) d f l ((g * blkN b k + x) * blkN b k ^ e' + m) = false := fun m hm => by
            cases c : badN (blkN b k) d f l ((g * blkN b k + x) * blkN b k ^ e' + m) with
            | false => rfl
            | true => rw [anyc.mpr ⟨m, hm, c⟩] at ec; cases ec
          have next : (x + 1) * blkN b k ^ e' ≤ m1 := by
            by_cases c : (x + 1) * blkN b k ^ e' ≤ m1
            · exact c
            · exfalso
              rw [Nat.add_mul, Nat.one_mul] at c
              have z := none_in (m1 - x * blkN b k ^ e') (by omega)
              rw [← eg x, show g * blkN b k ^ (e' + 1) + x * blkN b k ^ e' + (m1 - x * blkN b k ^ e') = g * blkN b k ^ (e' + 1) + m1 by omega, hm3] at z
              cases z
          have hx1 : x + 1 < blkN b k := by
            have q : (x + 1) * blkN b k ^ e' < blkN b k * blkN b k ^ e' := by
              rw [hs]
              exact Nat.lt_of_le_of_lt next hm2
            exact Nat.lt_of_mul_lt_mul_right q
          refine a_turn ?_
          walk_at "g"
          refine ⟨blkN b k - (x + 1), by omega, x + 1, ?_, O, hx1, ⟨m1, next, hm2, hm3⟩, fun y hy => ?_, rfl⟩
          · have e1 : (((g * blkN b k + x) * blkN b k ^ e' : Nat) : Int) + ((blkN b k ^ e' : Nat) : Int) = (((g * blkN b k + (x + 1)) * blkN b k ^ e' : Nat) : Int) := by
              rw [← Int.natCast_add]
              congr 1
              rw [← Nat.add_assoc, Nat.add_mul (g * blkN b k + x), Nat.one_mul]
            have e2 : ttl (blkN b k) f l (g * blkN b k ^ (e' + 1)) n + wt f l e' * (x : Int) + wt f l e' = ttl (blkN b k) f l (g * blkN b k ^ (e' + 1)) n + wt f l e' * ((x + 1 : Nat) : Int) := by
              rw [Int.natCast_add, Int.mul_add, Int.add_assoc]
              simp
            rw [← e1, ← e2]
            rfl
          · by_cases c : y < (g * blkN b k + x) * blkN b k ^ e'
            · exact nox y c
            · have z := none_in (y - (g * blkN b k + x) * blkN b k ^ e') (by
                rw [← Nat.add_assoc, Nat.add_mul (g * blkN b k + x), Nat.one_mul] at hy
                omega)
              rw [show (g * blkN b k + x) * blkN b k ^ e' + (y - (g * blkN b k + x) * blkN b k ^ e') = y by omega] at z
              exact z
      · clear O
        rintro σ H' ⟨g, v6, v7, v8, rfl, O, le, ⟨m, hm, hb⟩, no⟩
        rw [Nat.sub_self, Nat.pow_zero, Nat.mul_one] at *
        have m0 : m = 0 := by omega
        subst m0
        walk_at "g"
        exact h (some g) H' (sB.trans O.st) ⟨hb, no⟩

/-! ### sum_fails -/
-- @NEEDS Sum_init need_sum first_fail
def sp_sum_fails (Z : Adr) : Sp := fun vs H Q _ => ∃ (a : Addr) (b k : Int) (f l : List Int) (d : Nat), vs = [.ref a, .int d] ∧ SumAt Z H a b k f l ∧ (1 ≤ d ∧ d ≤ 30) ∧
  ∀ (r : Option Nat) (H' : Hp), Same H H' → FstOf (badN (blkN b k) d f l) r → Q (optN r) H'
theorem ok_sum_fails (T : Txt K mg Z) : FnOk P w K mg base CX0 5 Z.f_sum_fails Z.d_sum_fails p_sum_fails (sp_sum_fails Z) := by
  refine T.F_sum_fails.ok sc_sum_fails (fun vs H Q E h => ?_) (fun cdv A outer s H vs Q E hr h => ?_)
  · obtain ⟨_, _, _, _, _, _, rfl, _⟩ := h; rfl
  · obtain ⟨a, b, k, f, l, d, rfl, ha, ⟨hd1, hd2⟩, h⟩ := h
    refine ⟨_, (pss_cons (ps_expr (pe_call (ok_need_sum T) (hr.mono (by decide)) rfl T.g_need_sum T.F_need_sum.kp T.b_need_sum .nil pass0 (pa_cons (pv 0) pa_nil)))
    (pss_cons (ps_expr (pe_call (ok_need_divisor T) (hr.mono (by decide)) rfl T.g_need_divisor T.F_need_divisor.kp T.b_need_divisor .nil pass0 (pa_cons (pv 1) (pa_cons (pe_globI rfl T.v_MOST_SUM_DIVISOR) pa_nil))))
    (pss_one (ps_ret (pe_call (ok_first_fail T) (hr.mono (by decide)) rfl T.g_first_fail T.F_first_fail.kp T.b_first_fail .nil pass0 (pa_cons (pv 0) (pa_cons (pv 1) pa_nil))))))), ?_⟩
    walk_at "g"
    refine ⟨a, b, k, f, l, rfl, ha, ?_⟩
    walk_at "g"
    exact ⟨a, b, k, f, l, d, rfl, ha, ⟨hd1, hd2⟩, h⟩

/-! ### law_taken -/
/-- the row of draws as it stands -/
def RowOk (sc : Addr) (o : HO) : Prop := ∃ i s c : Int, o = .lst [.ref sc, .int i, .int s, .int c] ∧ 0 ≤ i ∧ 0 ≤ s ∧ s < 2147483647 ∧ 0 ≤ c
def sp_law_taken (K : Frag) : Sp := fun vs H Q _ => ∃ (row sc : Addr) (o : HO) (ns : List Int) (m : Int), vs = [.ref row, .int m] ∧ H row = some o ∧ RowOk sc o ∧ SqL K H sc (ns.map V.int) ∧ 0 < m ∧ m < 10 ^ 60 ∧
  ∀ (r : Int) (o' : HO) (H' : Hp), 0 ≤ r → r < m → RowOk sc o' → H' row = some o' → (∀ b v, b ≠ row → H b = some v → H' b = some v) → Q (.int r) H'
theorem row_ne {K : Frag} {H : Hp} {row sc : Addr} {o : HO} {ns : List Int} (h : H row = some o) (r : RowOk sc o) (hs : SqL K H sc (ns.map V.int)) : SqL K (del1 H row) sc (ns.map V.int) := by
  obtain ⟨i, s, c, rfl, _⟩ := r
  have d : ∀ ns : List Int, (ns.map V.int) ≠ [.ref sc, .int i, .int s, .int c] := fun ns e => by
    cases ns with
    | nil => cases e
    | cons a l => injection e with e1 _; cases e1
  rcases hs with (hs | ⟨q, hs⟩) | hs
  · have ne : sc ≠ row := fun z => by
      rw [z, h] at hs
      injection hs with e
      injection e with e
      exact d ns e.symm
    exact .inl (.inl (by rw [del1_ne ne]; exact hs))
  · have ne : sc ≠ row := fun z => by
      rw [z, h] at hs
      injection hs with e
      cases e
    exact .inl (.inr ⟨q, by rw [del1_ne ne]; exact hs⟩)
  · exact .inr hs
theorem use_law_taken {K : Frag} {B H : Hp} {Lw : List (Addr × HO)} {row sc : Addr} {o : HO} {ns : List Int} {m : Int} {Q : VK} {E : XK} (O : Own B Lw H) (i : Nat) (hi : Lw[i]? = some (row, o)) (ho : RowOk sc o) (hs : SqL K B sc (ns.map V.int)) (h1 : 0 < m ∧ m < 10 ^ 60)
    (h : ∀ (r : Int) (o' : HO) (H' : Hp), 0 ≤ r → r < m → RowOk sc o' → Own B (Lw.set i (row, o')) H' → Q (.int r) H') : sp_law_taken K ([.ref row, .int m] ++ []) H Q E :=
  ⟨row, sc, o, ns, m, rfl, O.get i hi, ho, O.seq hs, h1.1, h1.2, fun r o' H' hr0 hr1 ho' h1 h2 => h r o' H' hr0 hr1 ho' (O.but i hi h2 h1)⟩
theorem ok_law_taken (T : Txt K mg Z) : FnOk P w K mg base CX0 1 Z.f_law_taken Z.d_law_taken p_law_taken (sp_law_taken K) := by
  refine T.F_law_taken.ok sc_law_taken (fun vs H Q E h => ?_) (fun cdv A outer s H vs Q E hr h => ?_)
  · obtain ⟨_, _, _, _, _, rfl, _⟩ := h; rfl
  · obtain ⟨row, sc, o, ns, m, rfl, hrow, hok, hs, hm0, hm1, h⟩ := h
    have hs1 := row_ne hrow hok hs
    have O := Own.refl1 hrow
    obtain ⟨i, s0, c, rfl, hi0, hs0, hs2, hc0⟩ := hok
    refine ⟨_, (pss_cons (ps_if (pt_cmpR op_gt (pe_ix (r := rIxL K) ix_list (pv 0) pe_int (fun _ _ => rfl)) pe_int (nomark _)) (pss_cons (ps_set (i := 2) sc_law_taken.nd rfl (Or.inl rfl) (pe_op op_mod (pe_callTy call_int1 (by rfl) T.n_int boot_int (pa_cons (pe_ix (r := rIxL K) ix_list (pv 0) pe_int (fun _ _ => rfl)) pa_nil)) (pv 1)))
    (pss_cons (ps_asg (pe_op op_fdivW (pe_ix (r := rIxL K) ix_list (pv 0) pe_int (fun _ _ => rfl)) (pv 1)) (pg_sub (pv 0) pe_int set_list))
    (pss_one (ps_ret (pv 2))))) pss_nil)
    (pss_cons (ps_asg (pe_op op_add (pe_ix (r := rIxL K) ix_list (pv 0) pe_int (fun _ _ => rfl)) pe_int) (pg_sub (pv 0) pe_int set_list))
    (pss_cons (ps_if (pt_cmpR op_gt (pe_ix (r := rIxL K) ix_list (pv 0) pe_int (fun _ _ => rfl)) (pe_callB (r := R.rLen K) call_lenR (by rfl) T.n_len boot_len (pa_cons (pe_ix (r := rIxL K) ix_list (pv 0) pe_int (fun _ _ => rfl)) pa_nil)) (nomark _)) (pss_cons (ps_asg (pe_op op_mod (pe_callTy call_int1 (by rfl) T.n_int boot_int (pa_cons (pe_op op_add (pe_op op_mulX (pe_ix (r := rIxL K) ix_list (pv 0) pe_int (fun _ _ => rfl)) pe_int) pe_int) pa_nil)) pe_int) (pg_sub (pv 0) pe_int set_list))
    (pss_one (ps_ret (pe_op op_mod (pe_callTy call_int1 (by rfl) T.n_int boot_int (pa_cons (pe_op op_fdivW (pe_ix (r := rIxL K) ix_list (pv 0) pe_int (fun _ _ => rfl)) pe_int) pa_nil)) (pv 1))))) pss_nil)
    (pss_cons (ps_set (i := 3) sc_law_taken.nd rfl (Or.inl rfl) (pe_ix (r := rIxL K) ix_list (pe_ix (r := rIxL K) ix_list (pv 0) pe_int (fun _ _ => rfl)) (pe_op op_sub (pe_ix (r := rIxL K) ix_list (pv 0) pe_int (fun _ _ => rfl)) pe_int) (fun _ _ => rfl)))
    (pss_cons (ps_asg (pe_op op_mod (pe_callTy call_int1 (by rfl) T.n_int boot_int (pa_cons (pe_op op_add (pe_op op_add (pe_op op_mulX (pe_ix (r := rIxL K) ix_list (pv 0) pe_int (fun _ _ => rfl)) pe_int) (pv 3)) pe_int) pa_nil)) pe_int) (pg_sub (pv 0) pe_int set_list))
    (pss_cons (ps_if (pt_cmpR op_ge (pv 3) (pe_op op_pow pe_int pe_int) (nomark _)) (pss_one (ps_asg (pe_op op_fdivW (pv 3) (pv 1)) (pg_sub (pv 0) pe_int set_list))) pss_nil)
    (pss_one (ps_ret (pe_op op_mod (pe_callTy call_int1 (by rfl) T.n_int boot_int (pa_cons (pv 3) pa_nil)) (pv 1)))))))))), ?_⟩
    walk_at "g"
    refine a_it2 (fun c1 => ?_) (fun c1 => ?_)
    · walk_at "g"
      refine h _ _ _ (Int.emod_nonneg _ (by omega)) (Int.emod_lt_of_pos _ hm0) ?_ (Own.get (by assumption) 0 rfl) (Own.toBut (by assumption))
      exact ⟨_, _, _, rfl, hi0, hs0, hs2, Int.ediv_nonneg hc0 (by omega)⟩
    · walk_at "g"
      refine a_it2 (fun c2 => ?_) (fun c2 => ?_)
      · walk_at "g"
        refine h _ _ _ (Int.emod_nonneg _ (by omega)) (Int.emod_lt_of_pos _ hm0) ?_ (Own.get (by assumption) 0 rfl) (Own.toBut (by assumption))
        exact ⟨_, _, _, rfl, by omega, by omega, by omega, hc0⟩
      · rw [List.length_map] at c2
        have hlt : i.toNat < ns.length := by omega
        walk_at "g"
        refine a_ixL (v := .int (ns[i.toNat])) (Own.seq (by assumption) hs1) (at0 (j := i.toNat) (by omega) (by rw [List.getElem?_map, List.getElem?_eq_getElem hlt]; rfl)) ?_
        generalize ns[i.toNat] = cell
        walk_at "g"
        refine a_it2 (fun c3 => ?_) (fun c3 => ?_)
        · walk_at "g"
          refine h _ _ _ (Int.emod_nonneg _ (by omega)) (Int.emod_lt_of_pos _ hm0) ?_ (Own.get (by assumption) 0 rfl) (Own.toBut (by assumption))
          exact ⟨_, _, _, rfl, by omega, by omega, by omega, Int.ediv_nonneg (by omega) (by omega)⟩
        · walk_at "g"
          refine h _ _ _ (Int.emod_nonneg _ (by omega)) (Int.emod_lt_of_pos _ hm0) ?_ (Own.get (by assumption) 0 rfl) (Own.toBut (by assumption))
          exact ⟨_, _, _, rfl, by omega, by omega, by omega, hc0⟩

/-! ### law_power -/
def sp_law_power : Sp := fun vs H Q _ => ∃ b m : Int, vs = [.int b, .int m] ∧ -(2 ^ 62) ≤ m ∧ m < 2 ^ 62 ∧ -(2 ^ 64) < b ∧ b < 2 ^ 64 ∧ Q (.int (b ^ m.toNat)) H
theorem use_law_power {b m : Int} {H : Hp} {Q : VK} {E : XK} (h1 : -(2 ^ 62) ≤ m ∧ m < 2 ^ 62 ∧ -(2 ^ 64) < b ∧ b < 2 ^ 64) (h : Q (.int (b ^ m.toNat)) H) : sp_law_power ([.int b, .int m] ++ []) H Q E := ⟨_, _, rfl, h1.1, h1.2.1, h1.2.2.1, h1.2.2.2, h⟩
theorem ok_law_power (T : Txt K mg Z) : FnOk P w K mg base CX0 1 Z.f_law_power Z.d_law_power p_law_power sp_law_power := by
  refine T.F_law_power.ok sc_law_power (fun vs H Q E h => ?_) (fun cdv A outer s H vs Q E hr h => ?_)
  · obtain ⟨_, _, rfl, _⟩ := h; rfl
  · obtain ⟨b, m, rfl, h1, h2, h3, h4, h⟩ := h
    refine ⟨_, (pss_cons (ps_set (i := 2) sc_law_power.nd rfl (Or.inl rfl) pe_int)
    (pss_cons (ps_for PassesOwn.never rfl (pi_range1 rfl T.n_range (pa_cons (pv 1) pa_nil)) (pg_name (i := 3) sc_law_power.nd rfl (Or.inl rfl))
    (pss_one (ps_set (i := 2) sc_law_power.nd rfl (Or.inl rfl) (pe_op op_mulX (pv 2) (pv 0)))))
    (pss_one (ps_ret (pv 2))))), ?_⟩
    walk_at "g"
    refine for_range (fun i σ H' => H' = H ∧ ∃ v, σ = [some (.int b), some (.int m), some (.int (b ^ i)), v]) ⟨rfl, none, by rw [Int.pow_zero]; rfl⟩ ?_ ?_
    · rintro i σ H' hi ⟨rfl, v, rfl⟩
      walk_at "g"
      exact ⟨rfl, _, by rw [Int.pow_succ]; rfl⟩
    · rintro σ H' ⟨rfl, v, rfl⟩
      walk_at "g"
      exact h
-- @USE
local macro_rules | `(tactic| walk_at "c") => `(tactic| ((with_reducible refine use_law_power ?h1 ?h2); (case h1 => omega)))

/-! ### law_weight -/
-- @NEEDS Sum_init
/-- the drawn parts of a sum -/
def ToldS (K : Frag) (H : Hp) (a : Addr) (b k : Int) (f l : List Int) : Prop := SumOk b k f l ∧ ∃ p1 p2, SqL K H a [.int b, .int k, .ref p1, .ref p2] ∧ H p1 = some (.tup (f.map V.int)) ∧ H p2 = some (.tup (l.map V.int))
def sp_law_weight (K : Frag) : Sp := fun vs H Q _ => ∃ (a : Addr) (b k : Int) (f l : List Int) (i : Nat), vs = [.ref a, .int i] ∧ ToldS K H a b k f l ∧ Q (.int (wt f l i)) H
theorem ok_law_weight (T : Txt K mg Z) : FnOk P w K mg base CX0 1 Z.f_law_weight Z.d_law_weight p_law_weight (sp_law_weight K) := by
  refine T.F_law_weight.ok sc_law_weight (fun vs H Q E h => ?_) (fun cdv A outer s H vs Q E hr h => ?_)
  · obtain ⟨_, _, _, _, _, _, rfl, _⟩ := h; rfl
  · obtain ⟨a, b, k, f, l, i, rfl, ⟨so, p1, p2, ha, h1, h2⟩, h⟩ := h
    have ll := so.hl
    have s1 : SqT K H p1 (f.map V.int) := SqT.of h1
    have s2 : SqT K H p2 (l.map V.int) := SqT.of h2
    refine ⟨_, (pss_cons (ps_if (pt_cmpR op_lt (pv 1) (pe_callB (r := R.rLen K) call_lenR (by rfl) T.n_len boot_len (pa_cons (pe_ix (r := rIxL K) ix_list (pv 0) pe_int (fun _ _ => rfl)) pa_nil)) (nomark _)) (pss_one (ps_ret (pe_ix (r := rIxT K) ix_tup (pe_ix (r := rIxL K) ix_list (pv 0) pe_int (fun _ _ => rfl)) (pv 1) (fun _ _ => rfl)))) pss_nil)
    (pss_one (ps_ret (pe_ix (r := rIxT K) ix_tup (pe_ix (r := rIxL K) ix_list (pv 0) pe_int (fun _ _ => rfl)) (pe_op op_mod (pe_op op_sub (pv 1) (pe_callB (r := R.rLen K) call_lenR (by rfl) T.n_len boot_len (pa_cons (pe_ix (r := rIxL K) ix_list (pv 0) pe_int (fun _ _ => rfl)) pa_nil))) (pe_callB (r := R.rLen K) call_lenR (by rfl) T.n_len boot_len (pa_cons (pe_ix (r := rIxL K) ix_list (pv 0) pe_int (fun _ _ => rfl)) pa_nil))) (fun _ _ => rfl))))), ?_⟩
    walk_at "g"
    rw [List.length_map]
    refine a_it2 (fun c => ?_) (fun c => ?_)
    · walk_at "g"
      refine a_ixTI s1 (by omega) ?_
      unfold wt at h
      rw [if_pos (by omega)] at h
      exact h
    · walk_at "g"
      rw [List.length_map, List.length_map]
      walk_at "g"
      have e : ((i : Int) - (f.length : Int)) % (l.length : Int) = (((i - f.length) % l.length : Nat) : Int) := by
        rw [show (i : Int) - (f.length : Int) = ((i - f.length : Nat) : Int) by omega, Int.natCast_emod]
      rw [e]
      refine a_ixTI s2 (Nat.mod_lt _ ll.1) ?_
      unfold wt at h
      rw [if_neg (by omega)] at h
      exact h

/-! ### law_sum -/
-- @NEEDS Sum_init law_taken law_power law_weight
/-- few of them, and small -/
def SumSmall (f l : List Int) : Prop := f.length ≤ 5 ∧ (∀ w ∈ f, -20000 ≤ w ∧ w ≤ 20000) ∧ ∀ w ∈ l, -20000 ≤ w ∧ w ≤ 20000
def sp_law_sum (K : Frag) : Sp := fun vs H Q _ => ∃ (row sc : Addr) (o : HO) (ns : List Int) (d : Int), vs = [.ref row, .int d] ∧ H row = some o ∧ RowOk sc o ∧ SqL K H sc (ns.map V.int) ∧ (1 ≤ d ∧ d ≤ 30) ∧
  ∀ (b k : Int) (f l : List Int) (p p1 p2 : Addr) (o' : HO) (H' : Hp), SumOk b k f l → SumSmall f l → RowOk sc o' → Own (del1 H row) [(p, .lst [.int b, .int k, .ref p1, .ref p2]), (p2, .tup (l.map V.int)), (p1, .tup (f.map V.int)), (row, o')] H' → Q (.ref p) H'
theorem use_law_sum {K : Frag} {B H : Hp} {Lw : List (Addr × HO)} {row sc : Addr} {o : HO} {ns : List Int} {d : Int} {Q : VK} {E : XK} (O : Own B Lw H) (i : Nat) (hi : Lw[i]? = some (row, o)) (ho : RowOk sc o) (hs : SqL K B sc (ns.map V.int)) (hd : 1 ≤ d ∧ d ≤ 30)
    (h : ∀ (b k : Int) (f l : List Int) (p p1 p2 : Addr) (o' : HO) (H' : Hp), SumOk b k f l → SumSmall f l → RowOk sc o' → Own B ((p, .lst [.int b, .int k, .ref p1, .ref p2]) :: (p2, .tup (l.map V.int)) :: (p1, .tup (f.map V.int)) :: Lw.set i (row, o')) H' → Q (.ref p) H') : sp_law_sum K ([.ref row, .int d] ++ []) H Q E :=
  ⟨row, sc, o, ns, d, rfl, O.get i hi, ho, O.seq hs, hd, fun b k f l p p1 p2 o' H' so sm ok O2 => h b k f l p p1 p2 o' H' so sm ok (Own.comp (New := [_, _, _]) O i hi O2)⟩
theorem ok_law_sum (T : Txt K mg Z) : FnOk P w K mg base CX0 2 Z.f_law_sum Z.d_law_sum p_law_sum (sp_law_sum K) := by
  refine T.F_law_sum.ok sc_law_sum (fun vs H Q E h => ?_) (fun cdv A outer s H vs Q E hr h => ?_)
  · obtain ⟨_, _, _, _, _, rfl, _⟩ := h; rfl
  · obtain ⟨row, sc, o, ns, d, rfl, hrow, hok, hs, hd, h⟩ := h
    have hs := row_ne hrow hok hs
    have O := Own.refl1 hrow
    refine ⟨_, (pss_cons (ps_par (i := 2) (j := 3) (by rfl) sc_law_sum.nd rfl rfl (by decide) rfl rfl (pa_cons (pe_ix (r := rIxL K) ix_list (pe_lst (pa_cons pe_int (pa_cons pe_int (pa_cons pe_int (pa_cons pe_int (pa_cons (pe_op op_add pe_int (pe_call (ok_law_taken T) (hr.mono (by decide)) rfl T.g_law_taken T.F_law_taken.kp T.b_law_taken .nil pass0 (pa_cons (pv 0) (pa_cons pe_int pa_nil)))) pa_nil)))))) (pe_call (ok_law_taken T) (hr.mono (by decide)) rfl T.g_law_taken T.F_law_taken.kp T.b_law_taken .nil pass0 (pa_cons (pv 0) (pa_cons pe_int pa_nil))) (fun _ _ => rfl)) (pa_cons (pe_op op_add pe_int (pe_op op_mulX (pe_call (ok_law_taken T) (hr.mono (by decide)) rfl T.g_law_taken T.F_law_taken.kp T.b_law_taken .nil pass0 (pa_cons (pv 0) (pa_cons pe_int pa_nil))) (pe_call (ok_law_taken T) (hr.mono (by decide)) rfl T.g_law_taken T.F_law_taken.kp T.b_law_taken .nil pass0 (pa_cons (pv 0) (pa_cons pe_int pa_nil))))) pa_nil)) (by rfl))
    (pss_cons (ps_par (i := 4) (j := 5) (by rfl) sc_law_sum.nd rfl rfl (by decide) rfl rfl (pa_cons (pe_call (ok_law_power T) (hr.mono (by decide)) rfl T.g_law_power T.F_law_power.kp T.b_law_power .nil pass0 (pa_cons (pv 2) (pa_cons (pv 3) pa_nil))) (pa_cons (pe_call (ok_law_taken T) (hr.mono (by decide)) rfl T.g_law_taken T.F_law_taken.kp T.b_law_taken .nil pass0 (pa_cons (pv 0) (pa_cons pe_int pa_nil))) pa_nil)) (by rfl))
    (pss_cons (ps_setLc (i := 6) rfl sc_law_sum.nd rfl rfl (sw_true rfl rfl rfl (by decide +kernel)) (own := [("_law_k", 12)]) (tt := tYes) (pi_range1 rfl T.n_range (pa_cons (pe_call (ok_law_taken T) (hr.mono (by decide)) rfl T.g_law_taken T.F_law_taken.kp T.b_law_taken .nil pass0 (pa_cons (pv 0) (pa_cons pe_int pa_nil))) pa_nil)) (blkOk_by (N := N_law_sum) (sc := defScope s_law_sum) (by decide +kernel)) (fun _ _ _ _ _ => (pg_name (i := 12) sc_law_sum.nd rfl (Or.inl rfl))) (fun _ _ _ _ _ => pts_nil) (fun _ _ _ _ _ => (pe_op op_sub (pe_call (ok_law_taken T) (hr.mono (by decide)) rfl T.g_law_taken T.F_law_taken.kp T.b_law_taken .nil pass0 (pa_cons (pv 0) (pa_cons pe_int pa_nil))) pe_int)))
    (pss_cons (ps_setLc (i := 7) rfl sc_law_sum.nd rfl rfl (sw_true rfl rfl rfl (by decide +kernel)) (own := [("_law_k", 12)]) (tt := tYes) (pi_range1 rfl T.n_range (pa_cons (pe_op op_add pe_int (pe_call (ok_law_taken T) (hr.mono (by decide)) rfl T.g_law_taken T.F_law_taken.kp T.b_law_taken .nil pass0 (pa_cons (pv 0) (pa_cons pe_int pa_nil)))) pa_nil)) (blkOk_by (N := N_law_sum) (sc := defScope s_law_sum) (by decide +kernel)) (fun _ _ _ _ _ => (pg_name (i := 12) sc_law_sum.nd rfl (Or.inl rfl))) (fun _ _ _ _ _ => pts_nil) (fun _ _ _ _ _ => (pe_op op_sub (pe_call (ok_law_taken T) (hr.mono (by decide)) rfl T.g_law_taken T.F_law_taken.kp T.b_law_taken .nil pass0 (pa_cons (pv 0) (pa_cons pe_int pa_nil))) pe_int)))
    (C8.pss_cut (ps_if (pt_cmpR op_gt (pv 5) pe_int (nomark _)) (pss_cons (ps_par (i := 8) (j := 9) (by rfl) sc_law_sum.nd rfl rfl (by decide) rfl rfl (pa_cons (pe_lst pa_nil) (pa_cons (pe_op op_mod pe_int (pv 1)) pa_nil)) (by rfl))
    (C8.pss_cut (ps_while PassesOwn.never (PW.pt (pw_and (pt_cmpR (r := rIn K true) op_notIn_seq (pv 9) (pv 8) (by rfl)) (pw_and1 (pt_cmpR op_lt (pe_callB (r := R.rLen K) call_lenR (by rfl) T.n_len boot_len (pa_cons (pv 8) pa_nil)) pe_int (nomark _)))))
    (pss_cons (ps_expr (pe_bm PySem.F.plainAttrs_list PySem.F.slot_list_append PySem.F.type_list_append mt_append (pv 8) (pa_cons (pv 9) pa_nil)))
    (pss_one (ps_set (i := 9) sc_law_sum.nd rfl (Or.inl rfl) (pe_op op_mod (pe_op op_mulX (pv 9) (pv 4)) (pv 1))))))
    (C8.pss_cut (ps_set (i := 10) sc_law_sum.nd rfl (Or.inl rfl) (pe_ifExp (pt_cmpR (r := rIn K false) op_in_seq (pv 9) (pv 8) (by rfl)) (pe_bm PySem.F.plainAttrs_list PySem.F.slot_list_index PySem.F.type_list_index mt_index (pv 8) (pa_cons (pv 9) pa_nil)) pe_int))
    (pss_cons (ps_par (i := 6) (j := 7) (by rfl) sc_law_sum.nd rfl rfl (by decide) rfl rfl (pa_cons (pe_slice (r := rSlL K) sl_list (pv 8) po_none (po_some (pv 10))) (pa_cons (pe_slice (r := rSlL K) sl_list (pv 8) (po_some (pv 10)) po_none) pa_nil)) (by rfl))
    (C8.pss_cut (ps_if (pt_cmpR op_gt (pe_callB (r := R.rLen K) call_lenR (by rfl) T.n_len boot_len (pa_cons (pv 7) pa_nil)) pe_int (nomark _)) (pss_one (ps_set (i := 7) sc_law_sum.nd rfl (Or.inl rfl) (pe_slice (r := rSlL K) sl_list (pv 7) po_none (po_some pe_int)))) pss_nil)
    (C8.pss_cut (ps_set (i := 11) sc_law_sum.nd rfl (Or.inr rfl) (pe_ifExp (pt_cmpR op_eq (pv 5) pe_int (nomark _)) (pe_op op_add pe_int (pe_call (ok_law_taken T) (hr.mono (by decide)) rfl T.g_law_taken T.F_law_taken.kp T.b_law_taken .nil pass0 (pa_cons (pv 0) (pa_cons (pv 1) pa_nil)))) pe_int))
    (pss_cons (ps_setLc (i := 6) rfl sc_law_sum.nd rfl rfl (sw_true rfl rfl rfl (by decide +kernel)) (own := [("_law_weight_here", 13)]) (tt := tYes) (pi_list (pv 6)) (blkOk_by (N := N_law_sum) (sc := defScope s_law_sum) (by decide +kernel)) (fun _ _ _ _ _ => (pg_name (i := 13) sc_law_sum.nd rfl (Or.inl rfl))) (fun _ _ _ _ _ => pts_nil) (fun _ _ _ _ _ => (pe_op op_add (pe_op op_mulX (pv 13) (pv 11)) (pe_op op_mulX (pv 1) (pe_op op_sub (pe_call (ok_law_taken T) (hr.mono (by decide)) rfl T.g_law_taken T.F_law_taken.kp T.b_law_taken .nil pass0 (pa_cons (pv 0) (pa_cons pe_int pa_nil))) pe_int)))))
    (pss_cons (ps_setLc (i := 7) rfl sc_law_sum.nd rfl rfl (sw_true rfl rfl rfl (by decide +kernel)) (own := [("_law_weight_here", 13)]) (tt := tYes) (pi_list (pv 7)) (blkOk_by (N := N_law_sum) (sc := defScope s_law_sum) (by decide +kernel)) (fun _ _ _ _ _ => (pg_name (i := 13) sc_law_sum.nd rfl (Or.inl rfl))) (fun _ _ _ _ _ => pts_nil) (fun _ _ _ _ _ => (pe_op op_add (pe_op op_mulX (pv 13) (pv 11)) (pe_op op_mulX (pv 1) (pe_op op_sub (pe_call (ok_law_taken T) (hr.mono (by decide)) rfl T.g_law_taken T.F_law_taken.kp T.b_law_taken .nil pass0 (pa_cons (pv 0) (pa_cons pe_int pa_nil))) pe_int)))))
    (pss_one (ps_if (pt_cmpR op_eq (pv 5) pe_int (nomark _)) (pss_cons (ps_set (i := 10) sc_law_sum.nd rfl (Or.inl rfl) (pe_call (ok_law_taken T) (hr.mono (by decide)) rfl T.g_law_taken T.F_law_taken.kp T.b_law_taken .nil pass0 (pa_cons (pv 0) (pa_cons (pe_callB (r := R.rLen K) call_lenR (by rfl) T.n_len boot_len (pa_cons (pv 7) pa_nil)) pa_nil))))
    (pss_one (ps_asg (pe_op op_add (pe_ix (r := rIxL K) ix_list (pv 7) (pv 10) (fun _ _ => rfl)) pe_int) (pg_sub (pv 7) (pv 10) set_list)))) pss_nil)))))))))) pss_nil)
    (pss_one (ps_ret (pe_lst (pa_cons (pv 2) (pa_cons (pv 3) (pa_cons (pe_callTy (r := rTupOf K) call_tupR (by rfl) T.n_tuple boot_tuple (pa_cons (pv 6) pa_nil)) (pa_cons (pe_callTy (r := rTupOf K) call_tupR (by rfl) T.n_tuple boot_tuple (pa_cons (pv 7) pa_nil)) pa_nil)))))))))))), ?_⟩
    walk_at "g"
    refine use_law_taken O 0 rfl hok hs (by omega) (fun y o H1 hy0 hy1 hok O => ?_)
    walk_at "g"; walk_at "mkL"; intro p H2 hp O
    walk_at "g"
    refine use_law_taken O 1 rfl hok hs (by omega) (fun z o H3 hz0 hz1 hok O => ?_)
    walk_at "g"
    refine a_ixM (ms := [10, 2, 3, 6, 2 + y]) O 0 rfl hz0 hz1 (fun b hb => ?_)
    have hb : 2 ≤ b ∧ b ≤ 16 := by
      simp only [List.mem_cons, List.not_mem_nil, or_false] at hb
      omega
    replace O := O.tail
    walk_at "g"
    refine use_law_taken O 0 rfl hok hs (by omega) (fun x1 o H3 hx0 hx1 hok O => ?_)
    walk_at "g"
    refine use_law_taken O 0 rfl hok hs (by omega) (fun x2 o H3 hw0 hw1 hok O => ?_)
    have hk : 1 ≤ 1 + x1 * x2 ∧ 1 + x1 * x2 ≤ 2 := by
      rcases (show x1 = 0 ∨ x1 = 1 by omega) with z | z
      · rw [z, Int.zero_mul]; omega
      · rw [z, Int.one_mul]; omega
    walk_at "g"
    generalize 1 + x1 * x2 = k at *
    walk_at "g"
    refine use_law_taken O 0 rfl hok hs (by omega) (fun kind o H3 hq0 hq1 hok O => ?_)
    walk_at "g"
    refine use_law_taken O 0 rfl hok hs (by omega) (fun n1 o H3 hn0 hn1 hok O => ?_)
    walk_at "g"
    intro D hD
    replace O := Own.new (o := .lst []) O hD
    refine lc_range (fun i H' => ∃ (fs : List Int) (o : HO), RowOk sc o ∧ (∀ w ∈ fs, -4 ≤ w ∧ w ≤ 4) ∧ fs.length = i ∧ Own (del1 H row) [(D, .lst (fs.map V.int)), (row, o)] H') ⟨[], o, hok, fun _ h => by simp at h, rfl, O⟩ ?_ ?_
    · clear O hok
      rintro i H' hi ⟨fs, o, hok, hf, hfl, O⟩
      walk_at "g"
      refine ⟨rfl, ?_⟩
      walk_at "g"
      refine use_law_taken O 1 rfl hok hs (by omega) (fun w o H2 hw0 hw1 hok O => ?_)
      walk_at "g"
      refine ⟨_, Own.get O 0 rfl, ?_, ?_⟩
      · rw [List.length_map]
        exact Nat.lt_of_lt_of_le (show fs.length < 1000 by omega) (by decide)
      · replace O := Own.put (u := .lst (fs.map V.int ++ [.int (w - 4)])) O 0 rfl
        refine ⟨fs ++ [w - 4], o, hok, fun v hv => ?_, by rw [List.length_append, hfl]; rfl, ?_⟩
        · rcases List.mem_append.mp hv with z | z
          · exact hf v z
          · have z : v = w - 4 := by simpa using z
            omega
        · rw [List.map_append]
          exact O
    clear O hok
    rintro H' ⟨fs, o, hok, hf, hfl, O⟩
    walk_at "g"
    refine use_law_taken O 1 rfl hok hs (by omega) (fun n2 o H3 hm0 hm1 hok O => ?_)
    walk_at "g"
    intro D2 hD2
    replace O := Own.new (o := .lst []) O hD2
    refine lc_range (fun i H' => ∃ (ls : List Int) (o : HO), RowOk sc o ∧ (∀ w ∈ ls, -4 ≤ w ∧ w ≤ 4) ∧ ls.length = i ∧ Own (del1 H row) [(D2, .lst (ls.map V.int)), (D, .lst (fs.map V.int)), (row, o)] H') ⟨[], o, hok, fun _ h => by simp at h, rfl, O⟩ ?_ ?_
    · clear O hok
      rintro i H' hi ⟨ls, o, hok, hl, hll, O⟩
      walk_at "g"
      refine ⟨rfl, ?_⟩
      walk_at "g"
      refine use_law_taken O 2 rfl hok hs (by omega) (fun w o H2 hw0 hw1 hok O => ?_)
      walk_at "g"
      refine ⟨_, Own.get O 0 rfl, ?_, ?_⟩
      · rw [List.length_map]
        exact Nat.lt_of_lt_of_le (show ls.length < 1000 by omega) (by decide)
      · replace O := Own.put (u := .lst (ls.map V.int ++ [.int (w - 4)])) O 0 rfl
        refine ⟨ls ++ [w - 4], o, hok, fun v hv => ?_, by rw [List.length_append, hll]; rfl, ?_⟩
        · rcases List.mem_append.mp hv with z | z
          · exact hl v z
          · have z : v = w - 4 := by simpa using z
            omega
        · rw [List.map_append]
          exact O
    clear O hok
    rintro H' ⟨ls, o, hok, hl, hll, O⟩
    walk_at "g"
    refine ⟨fun σ H' => ∃ (fs ls : List Int) (D D2 : Addr) (o : HO) (v4 v5 v8 v9 v10 v11 v12 v13 : Option V), σ = [some (.ref row), some (.int d), some (.int b), some (.int k), v4, v5, some (.ref D), some (.ref D2), v8, v9, v10, v11, v12, v13] ∧
      SumOk b k fs ls ∧ SumSmall fs ls ∧ RowOk sc o ∧ Own (del1 H row) [(D2, .lst (ls.map V.int)), (D, .lst (fs.map V.int)), (row, o)] H', ?_, ?_⟩
    · walk_at "g"
      refine a_it2 (fun c => ?_) (fun c => ?_)
      · obtain ⟨dn, rfl⟩ : ∃ n : Nat, d = (n : Int) := ⟨d.toNat, by omega⟩
        have hB0 : 0 ≤ b ^ k.toNat := Int.pow_nonneg (by omega)
        obtain ⟨B, hB⟩ : ∃ B : Nat, b ^ k.toNat = (B : Int) := ⟨(b ^ k.toNat).toNat, by omega⟩
        have hdn : 0 < dn := by omega
        rw [hB]
        walk_at "g"; walk_at "mkL"; intro S H2 hS O
        walk_at "g"
        refine ⟨fun σ H' => ∃ (i : Nat) (v10 v11 v12 v13 : Option V), i ≤ 20 ∧ (∀ a c, a < c → c < i → pw B dn a ≠ pw B dn c) ∧ (((pw B dn i : Nat) : Int) ∈ PL B dn i ∨ i = 20) ∧
          σ = [some (.ref row), some (.int dn), some (.int b), some (.int k), some (.int B), some (.int kind), some (.ref D), some (.ref D2), some (.ref S), some (.int ((pw B dn i : Nat) : Int)), v10, v11, v12, v13] ∧
          Own (del1 H row) [(S, .lst ((PL B dn i).map V.int)), (row, o)] H', ?_, ?_⟩
        · refine a_while (fun m σ H' => ∃ (i : Nat) (v10 v11 v12 v13 : Option V), i ≤ 20 ∧ m = 20 - i ∧ (∀ a c, a < c → c < i → pw B dn a ≠ pw B dn c) ∧
            σ = [some (.ref row), some (.int dn), some (.int b), some (.int k), some (.int B), some (.int kind), some (.ref D), some (.ref D2), some (.ref S), some (.int ((pw B dn i : Nat) : Int)), v10, v11, v12, v13] ∧
            Own (del1 H row) [(S, .lst ((PL B dn i).map V.int)), (row, o)] H') ⟨20, 0, _, _, _, _, by omega, rfl, fun a c _ h => absurd h (Nat.not_lt_zero c), rfl, O.less (.cons₂ _ (.cons _ (.cons _ (List.Sublist.refl _))))⟩ ?_
          clear O
          rintro m σ H' ⟨i, v10, v11, v12, v13, hi, rfl, dis, rfl, O⟩
          have hlt := pw_lt (B := B) hdn i
          walk_at "g"
          refine a_ninI (Own.sq O 0 rfl) ?_
          walk_at "g"
          refine a_ni2 (fun c1 => ?_) (fun c1 => ?_)
          · walk_at "g"
            exact ⟨i, _, _, _, _, hi, dis, .inl c1, rfl, O⟩
          · walk_at "g"
            rw [List.length_map, PL_len]
            walk_at "g"
            refine a_it2 (fun c2 => ?_) (fun c2 => ?_)
            · walk_at "g"
              refine a_turn ?_
              walk_at "g"
              refine ⟨.inl ⟨rfl, _, Own.sq O 0 rfl⟩, ?_⟩
              walk_at "g"
              refine a_app O 0 rfl (by rw [List.length_map, PL_len]; omega) (fun H3 O3 => ?_)
              walk_at "g"
              refine ⟨20 - (i + 1), by omega, i + 1, _, _, _, _, by omega, rfl, fun a c hac hc e => ?_, rfl, ?_⟩
              · by_cases z : c = i
                · subst z
                  exact c1 (List.mem_of_getElem? (by rw [PL_at hac, e]))
                · exact dis a c hac (by omega) e
              · rw [PL_succ, List.map_append]
                exact O3
            · walk_at "g"
              exact ⟨i, _, _, _, _, hi, dis, .inr (by omega), rfl, O⟩
        · clear O
          rintro σ H' ⟨i, v10, v11, v12, v13, hi, dis, hend, rfl, O⟩
          walk_at "g"
          refine ⟨fun σ H' => ∃ (n at' : Nat) (ms : List Int) (v9 v11 v12 v13 : Option V), at' ≤ 5 ∧ at' < ms.length ∧ ms.length ≤ 20 ∧ (∀ w ∈ ms, 0 ≤ w ∧ w < (dn : Int)) ∧
            σ = [some (.ref row), some (.int dn), some (.int b), some (.int k), some (.int B), some (.int kind), some (.ref D), some (.ref D2), some (.ref S), v9, some (.int (at' : Int)), v11, v12, v13] ∧
            Own (del1 H row) [(S, .lst (ms.map V.int)), (row, o)] H', ?_, ?_⟩
          · walk_at "g"
            refine a_inI (Own.sq O 0 rfl) ?_
            walk_at "g"
            refine a_it2 (fun c1 => ?_) (fun c1 => ?_)
            · walk_at "g"
              obtain ⟨j, hj1, hj2⟩ := first_in c1
              refine ⟨.inl ⟨rfl, _, Own.sq O 0 rfl⟩, ?_⟩
              walk_at "g"
              refine a_indexI (Own.sq O 0 rfl) hj1 hj2 ?_
              walk_at "g"
              have hji : j < i := by
                have z := (List.getElem?_eq_some_iff.mp hj1).1
                rw [PL_len] at z; exact z
              have e : pw B dn j = pw B dn i := by
                rw [PL_at hji] at hj1
                have z := Option.some.inj hj1
                omega
              exact ⟨0, j, PL B dn i, _, _, _, _, few (by omega) hdn hi hji e dis, by rw [PL_len]; exact hji, by rw [PL_len]; exact hi, fun w hw => PL_bd hdn hw, rfl, O⟩
            · walk_at "g"
              have e : i = 20 := hend.resolve_left c1
              exact ⟨0, 0, PL B dn i, _, _, _, _, by omega, by rw [PL_len]; omega, by rw [PL_len]; exact hi, fun w hw => PL_bd hdn hw, rfl, O⟩
          · clear O
            rintro σ H' ⟨_, at', ms, v9, v11, v12, v13, hat, hatl, hml, hms, rfl, O⟩
            walk_at "g"
            refine a_slTo (k := at') rfl O (Own.sq O 0 rfl) (fun F H4 hF O => ?_)
            walk_at "g"
            refine a_slFrom (k := at') rfl O (Own.sq O 1 rfl) (fun L H5 hL O => ?_)
            walk_at "g"
            refine ⟨fun σ H' => ∃ (L : Addr) (fs ls : List Int) (v8 v9 v10 v11 v12 v13 : Option V), fs.length ≤ 5 ∧ 1 ≤ ls.length ∧ ls.length ≤ 12 ∧ (∀ w ∈ fs, 0 ≤ w ∧ w < (dn : Int)) ∧ (∀ w ∈ ls, 0 ≤ w ∧ w < (dn : Int)) ∧
              σ = [some (.ref row), some (.int dn), some (.int b), some (.int k), some (.int B), some (.int kind), some (.ref F), some (.ref L), v8, v9, v10, v11, v12, v13] ∧
              Own (del1 H row) [(L, .lst (ls.map V.int)), (F, .lst (fs.map V.int)), (row, o)] H', ?_, ?_⟩
            · walk_at "g"
              rw [List.length_map, List.length_drop]
              walk_at "g"
              have hf : (ms.take at').length ≤ 5 := by rw [List.length_take]; omega
              refine a_it2 (fun c1 => ?_) (fun c1 => ?_)
              · walk_at "g"
                refine a_slTo (k := 12) rfl O (Own.sq O 0 rfl) (fun L2 H6 hL2 O => ?_)
                walk_at "g"
                exact ⟨L2, ms.take at', (ms.drop at').take 12, _, _, _, _, _, _, hf, by rw [List.length_take, List.length_drop]; omega, by rw [List.length_take]; omega,
                  fun w hw => hms w (List.mem_of_mem_take hw), fun w hw => hms w (List.mem_of_mem_drop (List.mem_of_mem_take hw)), rfl, O.less (.cons₂ _ (.cons _ (.cons₂ _ (.cons _ (List.Sublist.refl _)))))⟩
              · walk_at "g"
                exact ⟨L, ms.take at', ms.drop at', _, _, _, _, _, _, hf, by rw [List.length_drop]; omega, by rw [List.length_drop]; omega,
                  fun w hw => hms w (List.mem_of_mem_take hw), fun w hw => hms w (List.mem_of_mem_drop hw), rfl, O.less (.cons₂ _ (.cons₂ _ (.cons _ (List.Sublist.refl _))))⟩
            · clear O
              rintro σ H' ⟨L, fs, ls, v8, v9, v10, v11, v12, v13, hfl, hl1, hl2, hfs, hls, rfl, O⟩
              walk_at "g"
              refine ⟨fun σ H' => ∃ (u : Int) (o : HO) (v8 v9 v10 v12 v13 : Option V), (1 ≤ u ∧ u ≤ 30) ∧ RowOk sc o ∧
                σ = [some (.ref row), some (.int dn), some (.int b), some (.int k), some (.int B), some (.int kind), some (.ref F), some (.ref L), v8, v9, v10, some (.int u), v12, v13] ∧
                Own (del1 H row) [(L, .lst (ls.map V.int)), (F, .lst (fs.map V.int)), (row, o)] H', ?_, ?_⟩
              · walk_at "g"
                refine a_it2 (fun c1 => ?_) (fun c1 => ?_)
                · walk_at "g"
                  refine use_law_taken O 2 rfl hok hs (by omega) (fun u o H3 hu0 hu1 hok O => ?_)
                  walk_at "g"
                  exact ⟨1 + u, o, _, _, _, _, _, by omega, hok, rfl, O⟩
                · walk_at "g"
                  exact ⟨1, o, _, _, _, _, _, by omega, hok, rfl, O⟩
              · clear O hok
                rintro σ H' ⟨u, o, v8, v9, v10, v12, v13, hu, hok, rfl, O⟩
                have wbd : ∀ w x : Int, 0 ≤ w → w < dn → 0 ≤ x → x < 3 → -(10 ^ 4) ≤ w * u + (dn : Int) * (x - 1) ∧ w * u + (dn : Int) * (x - 1) ≤ 10 ^ 4 := fun w x h1 h2 h3 h4 => by
                  have e1 : 0 ≤ w * u := Int.mul_nonneg h1 (by omega)
                  have e2 : w * u ≤ 30 * 30 := Int.mul_le_mul (by omega) hu.2 (by omega) (by omega)
                  have e3 : x = 0 ∨ x = 1 ∨ x = 2 := by omega
                  rcases e3 with e3 | e3 | e3 <;> subst e3 <;> omega
                walk_at "g"
                refine ⟨F, rfl, ⟨_, Own.sq O 1 rfl⟩, fun D3 hD3 => ?_⟩
                replace O := Own.new (o := .lst []) O hD3
                refine lc_list (xs := fs.map V.int) (fun i H' => ∃ (gs : List Int) (o : HO), RowOk sc o ∧ (∀ w ∈ gs, -(10 ^ 4) ≤ w ∧ w ≤ 10 ^ 4) ∧ gs.length = i ∧ Own (del1 H row) [(D3, .lst (gs.map V.int)), (L, .lst (ls.map V.int)), (F, .lst (fs.map V.int)), (row, o)] H') ⟨[], o, hok, fun _ h => by simp at h, rfl, O⟩ (fun i H' _ ⟨_, _, _, _, _, O⟩ => Own.sq O 2 rfl) ?_ ?_
                · clear O hok
                  rintro i x H' hi ⟨gs, o, hok, hg, hgl, O⟩
                  rw [List.getElem?_map] at hi
                  obtain ⟨w, hw, rfl⟩ := Option.map_eq_some_iff.mp hi
                  have hwm := hfs w (List.mem_of_getElem? hw)
                  have hil := (List.getElem?_eq_some_iff.mp hw).1
                  walk_at "g"
                  refine ⟨rfl, ?_⟩
                  walk_at "g"
                  refine use_law_taken O 3 rfl hok hs (by omega) (fun y o H2 hy0 hy1 hok O => ?_)
                  walk_at "g"
                  refine ⟨_, Own.get O 0 rfl, ?_, ?_⟩
                  · rw [List.length_map]
                    exact Nat.lt_of_lt_of_le (show gs.length < 1000 by omega) (by decide)
                  · replace O := Own.put (u := .lst (gs.map V.int ++ [.int (w * u + (dn : Int) * (y - 1))])) O 0 rfl
                    refine ⟨gs ++ [w * u + (dn : Int) * (y - 1)], o, hok, fun v hv => ?_, by rw [List.length_append, hgl]; rfl, ?_⟩
                    · rcases List.mem_append.mp hv with z | z
                      · exact hg v z
                      · have z : v = w * u + (dn : Int) * (y - 1) := by simpa using z
                        rw [z]; exact wbd w y hwm.1 hwm.2 hy0 hy1
                    · rw [List.map_append]
                      exact O
                clear O hok
                rw [List.length_map]
                rintro H' ⟨gs, o, hok, hg, hgl, O⟩
                replace O := O.less (Lw' := [(D3, .lst (gs.map V.int)), (L, .lst (ls.map V.int)), (row, o)]) (.cons₂ _ (.cons₂ _ (.cons _ (List.Sublist.refl _))))
                walk_at "g"
                refine ⟨L, rfl, ⟨_, Own.sq O 1 rfl⟩, fun D4 hD4 => ?_⟩
                replace O := Own.new (o := .lst []) O hD4
                refine lc_list (xs := ls.map V.int) (fun i H' => ∃ (es : List Int) (o : HO), RowOk sc o ∧ (∀ w ∈ es, -(10 ^ 4) ≤ w ∧ w ≤ 10 ^ 4) ∧ es.length = i ∧ Own (del1 H row) [(D4, .lst (es.map V.int)), (D3, .lst (gs.map V.int)), (L, .lst (ls.map V.int)), (row, o)] H') ⟨[], o, hok, fun _ h => by simp at h, rfl, O⟩ (fun i H' _ ⟨_, _, _, _, _, O⟩ => Own.sq O 2 rfl) ?_ ?_
                · clear O hok
                  rintro i x H' hi ⟨es, o, hok, he, hel, O⟩
                  rw [List.getElem?_map] at hi
                  obtain ⟨w, hw, rfl⟩ := Option.map_eq_some_iff.mp hi
                  have hwm := hls w (List.mem_of_getElem? hw)
                  have hil := (List.getElem?_eq_some_iff.mp hw).1
                  walk_at "g"
                  refine ⟨rfl, ?_⟩
                  walk_at "g"
                  refine use_law_taken O 3 rfl hok hs (by omega) (fun y o H2 hy0 hy1 hok O => ?_)
                  walk_at "g"
                  refine ⟨_, Own.get O 0 rfl, ?_, ?_⟩
                  · rw [List.length_map]
                    exact Nat.lt_of_lt_of_le (show es.length < 1000 by omega) (by decide)
                  · replace O := Own.put (u := .lst (es.map V.int ++ [.int (w * u + (dn : Int) * (y - 1))])) O 0 rfl
                    refine ⟨es ++ [w * u + (dn : Int) * (y - 1)], o, hok, fun v hv => ?_, by rw [List.length_append, hel]; rfl, ?_⟩
                    · rcases List.mem_append.mp hv with z | z
                      · exact he v z
                      · have z : v = w * u + (dn : Int) * (y - 1) := by simpa using z
                        rw [z]; exact wbd w y hwm.1 hwm.2 hy0 hy1
                    · rw [List.map_append]
                      exact O
                clear O hok
                rw [List.length_map]
                rintro H' ⟨es, o, hok, he, hel, O⟩
                replace O := O.less (Lw' := [(D4, .lst (es.map V.int)), (D3, .lst (gs.map V.int)), (row, o)]) (.cons₂ _ (.cons₂ _ (.cons _ (List.Sublist.refl _))))
                walk_at "g"
                refine a_it2 (fun c1 => ?_) (fun c1 => ?_)
                · walk_at "g"
                  rw [List.length_map, hel]
                  walk_at "g"
                  refine use_law_taken O 2 rfl hok hs (by omega) (fun y o H2 hy0 hy1 hok O => ?_)
                  have hyl : y.toNat < es.length := by omega
                  walk_at "g"
                  refine a_ixI O 0 rfl hy0 hyl ?_
                  walk_at "g"
                  refine a_setL (j := y.toNat) O 0 rfl (by unfold ixN; rw [if_pos hy0, if_pos (by rw [List.length_map]; omega)]) (fun H3 O => ?_)
                  walk_at "g"
                  refine ⟨gs, es.set y.toNat (es[y.toNat] + 1), D3, D4, o, _, _, _, _, _, _, _, _, rfl, ⟨hb, hk, by omega, by rw [List.length_set]; omega, fun w hw => (by have := hg w hw; omega), fun w hw => ?_⟩, ⟨by omega, fun w hw => (by have := hg w hw; omega), fun w hw => ?_⟩, hok, ?_⟩
                  · rcases List.mem_or_eq_of_mem_set hw with z | z
                    · have := he w z; omega
                    · have := he _ (List.getElem_mem hyl); omega
                  · rcases List.mem_or_eq_of_mem_set hw with z | z
                    · have := he w z; omega
                    · have := he _ (List.getElem_mem hyl); omega
                  · rw [List.map_set]
                    exact O
                · walk_at "g"
                  exact ⟨gs, es, D3, D4, o, _, _, _, _, _, _, _, _, rfl, ⟨hb, hk, by omega, by omega, fun w hw => (by have := hg w hw; omega), fun w hw => (by have := he w hw; omega)⟩, ⟨by omega, fun w hw => (by have := hg w hw; omega), fun w hw => (by have := he w hw; omega)⟩, hok, O⟩
      · walk_at "g"
        exact ⟨fs, ls, D, D2, o, _, _, _, _, _, _, _, _, rfl, ⟨hb, hk, by omega, by omega, fun w hw => (by have := hf w hw; omega), fun w hw => (by have := hl w hw; omega)⟩, ⟨by omega, fun w hw => (by have := hf w hw; omega), fun w hw => (by have := hl w hw; omega)⟩, hok, O⟩
    · clear O hok hl hll hf hfl
      rintro σ H' ⟨fs, ls, D, D2, o, v4, v5, v8, v9, v10, v11, v12, v13, rfl, so, sm, hok, O⟩
      walk_at "g"
      refine ⟨D, _, rfl, .inl ⟨Own.sq O 1 rfl, fun t1 ht1 => ?_⟩⟩
      replace O := Own.new (o := .tup (fs.map V.int)) O ht1
      walk_at "g"
      refine ⟨D2, _, rfl, .inl ⟨Own.sq O 1 rfl, fun t2 ht2 => ?_⟩⟩
      replace O := Own.new (o := .tup (ls.map V.int)) O ht2
      walk_at "g"; walk_at "mkL"; intro r H5 hr5 O
      exact h b k fs ls r t1 t2 o H5 so sm hok (O.less (.cons₂ _ (.cons₂ _ (.cons₂ _ (.cons _ (.cons _ (List.Sublist.refl _)))))))

/-! ### law -/
-- @NEEDS law_taken law_sum law_power law_weight sum_fails
def sp_law (K : Frag) : Sp := fun vs H Q _ => ∃ (a : Addr) (ns : List Int), vs = [.ref a] ∧ SqL K H a (ns.map V.int) ∧ ns.length ≤ 63 ∧ ∀ H', Q (.bl true) H'
/-- what the loop's find says -/
def FaOk (B d : Nat) (f l : List Int) (i : Nat) : Option Nat → Prop
  | none => ∀ q, Rch B d f l i q → bad q = false
  | some x => x = i ∧ 1 ≤ i ∧ (∃ q, Rch B d f l i q ∧ bad q = true) ∧ ∀ q, Rch B d f l (i - 1) q → bad q = false
theorem optN_some (y : Nat) : optN (some y) = .int (y : Int) := rfl
theorem optN_none : optN none = .non := rfl
theorem look12 {B d n a : Nat} {f l : List Int} (hd : 0 < d) (h : PowOf B d n a) (d12 : d ≤ 12) (f12 : f.length ≤ 12) (l12 : l.length ≤ 12) : lookN f l n a ≤ 168 := by
  have hn := h.le hd
  have ha := h.lt
  have q : Nat.lcm (n - a) l.length ≤ (n - a) * l.length := by
    unfold Nat.lcm
    exact Nat.div_le_self _ _
  have q2 : (n - a) * l.length ≤ (n - a) * 12 := Nat.mul_le_mul_left _ l12
  unfold lookN
  omega
theorem pow_ex {B d : Nat} (hd : 0 < d) : ∃ n a, PowOf B d n a := by
  apply Classical.byContradiction
  intro no
  have all : ∀ n, ∀ i j, i < j → j < n → pw B d i ≠ pw B d j := by
    intro n
    induction n with
    | zero => intro i j _ h; omega
    | succ n ih =>
      intro i j h1 h2 e
      by_cases c : j = n
      · subst c; exact no ⟨j, i, ⟨h1, e, ih⟩⟩
      · exact ih i j h1 (by omega) e
  have := pw_few hd (all (d + 1))
  omega
theorem step_zero {d : Nat} {u w : Int} {r : Int × Int} (h : (0 ≤ r.1 ∧ r.1 < d) ∧ (0 ≤ r.2 ∧ r.2 < d)) : stepP d u w r 0 = r := by
  unfold stepP
  refine Prod.ext ?_ ?_
  · show (r.1 + ((0 : Nat) : Int) * u) % d = r.1
    rw [Int.natCast_zero, Int.zero_mul, Int.add_zero, Int.emod_eq_of_lt h.1.1 h.1.2]
  · show (r.2 + ((0 : Nat) : Int) * w) % d = r.2
    rw [Int.natCast_zero, Int.zero_mul, Int.add_zero, Int.emod_eq_of_lt h.2.1 h.2.2]
theorem ok_law (T : Txt K mg Z) : FnOk P w K mg base CX0 6 Z.f_law Z.d_law p_law (sp_law K) := by
  refine T.F_law.ok sc_law (fun vs H Q E h => ?_) (fun cdv A outer s H vs Q E hr h => ?_)
  · obtain ⟨_, _, rfl, _⟩ := h; rfl
  · obtain ⟨a, ns, rfl, hS, hlen, h⟩ := h
    have O := Own.refl H
    refine ⟨_, (pss_cons (ps_set (i := 1) sc_law.nd rfl (Or.inl rfl) (pe_lst (pa_cons (pv 0) (pa_cons pe_int (pa_cons pe_int (pa_cons pe_int pa_nil))))))
    (pss_cons (ps_set (i := 2) sc_law.nd rfl (Or.inl rfl) (pe_op op_add pe_int (pe_call (ok_law_taken T) (hr.mono (by decide)) rfl T.g_law_taken T.F_law_taken.kp T.b_law_taken .nil pass0 (pa_cons (pv 1) (pa_cons pe_int pa_nil)))))
    (pss_cons (ps_set (i := 3) sc_law.nd rfl (Or.inl rfl) (pe_call (ok_law_sum T) (hr.mono (by decide)) rfl T.g_law_sum T.F_law_sum.kp T.b_law_sum .nil pass0 (pa_cons (pv 1) (pa_cons (pv 2) pa_nil))))
    (pss_cons (ps_par3 (i := 4) (j := 5) (l := 6) (by rfl) sc_law.nd rfl rfl rfl (by decide) (by decide) (by decide) rfl rfl rfl (pa_cons (pe_call (ok_law_power T) (hr.mono (by decide)) rfl T.g_law_power T.F_law_power.kp T.b_law_power .nil pass0 (pa_cons (pe_ix (r := rIxL K) ix_list (pv 3) pe_int (fun _ _ => rfl)) (pa_cons (pe_ix (r := rIxL K) ix_list (pv 3) pe_int (fun _ _ => rfl)) pa_nil))) (pa_cons (pe_op op_mod pe_int (pv 2)) (pa_cons pe_int pa_nil))) (by rfl))
    (pss_cons (ps_par3 (i := 7) (j := 8) (l := 9) (by rfl) sc_law.nd rfl rfl rfl (by decide) (by decide) (by decide) rfl rfl rfl (pa_cons (pe_disp1T (hu_of hr) (pe_tup (pa_cons pe_int (pa_cons pe_int pa_nil))) pe_bl) (pa_cons pe_non (pa_cons pe_int pa_nil))) (by rfl))
    (C8.pss_cut (ps_while PassesOwn.never (PW.pt (pw_and (pt_cmpR op_isN1 (pv 8) pe_non (nomark _)) (pw_and1 (pt_cmpR op_lt (pv 9) (pe_op op_add pe_int (pe_op op_mulX pe_int pe_int)) (nomark _)))))
    (pss_cons (ps_par (i := 10) (j := 11) (by rfl) sc_law.nd rfl rfl (by decide) rfl rfl (pa_cons (pe_op op_mod (pe_call (ok_law_weight T) (hr.mono (by decide)) rfl T.g_law_weight T.F_law_weight.kp T.b_law_weight .nil pass0 (pa_cons (pv 3) (pa_cons (pv 6) pa_nil))) (pv 2)) (pa_cons (pe_callTy (r := rDupT) (cr_dupT hr.units) (by rfl) T.n_dict boot_dict (pa_cons (pv 7) pa_nil)) pa_nil)) (by rfl))
    (pss_cons (ps_lock (ps_for PassesOwn.never rfl (pi_keys (pv 7)) (pg_tup rfl (pgs_cons (pg_name (i := 12) sc_law.nd rfl (Or.inl rfl)) (pgs_cons (pg_name (i := 13) sc_law.nd rfl (Or.inl rfl)) pgs_nil)))
    (pss_one (ps_for PassesOwn.never rfl (pi_range2 rfl T.n_range (pa_cons pe_int (pa_cons (pe_callB (call_min2 rfl) (by rfl) T.n_min boot_min (pa_cons (pv 4) (pa_cons (pv 2) pa_nil))) pa_nil))) (pg_name (i := 14) sc_law.nd rfl (Or.inl rfl))
    (pss_one (ps_dput (hu_of hr) (pv 11) (pe_tup (pa_cons (pe_op op_mod (pe_op op_add (pv 12) (pe_op op_mulX (pv 14) (pv 5))) (pv 2)) (pa_cons (pe_op op_mod (pe_op op_add (pv 13) (pe_op op_mulX (pv 14) (pv 10))) (pv 2)) pa_nil))) pe_bl rfl))))))
    (C8.pss_cut (ps_set (i := 9) sc_law.nd rfl (Or.inl rfl) (pe_ifExp (pt_cmpR op_eq (pe_callB (r := L2.rLenT) call_len_dT (by rfl) T.n_len boot_len (pa_cons (pv 11) pa_nil)) (pe_callB (r := L2.rLenT) call_len_dT (by rfl) T.n_len boot_len (pa_cons (pv 7) pa_nil)) (nomark _)) (pe_op op_add (pv 9) pe_int) pe_int))
    (pss_cons (ps_par3 (i := 7) (j := 5) (l := 6) (by rfl) sc_law.nd rfl rfl rfl (by decide) (by decide) (by decide) rfl rfl rfl (pa_cons (pv 11) (pa_cons (pe_op op_mod (pe_op op_mulX (pv 5) (pv 4)) (pv 2)) (pa_cons (pe_op op_add (pv 6) pe_int) pa_nil))) (by rfl))
    (pss_one (ps_if (pt_val (pe_callB (r := rAny K) (cr_any rfl) (by rfl) T.n_any boot_any (pa_cons (pe_lock (pe_lc (own := [("_law_rest", 12), ("_law_other", 13)]) (tt := tYes) rfl sc_law.nd (pi_keys (pv 7)) (blkOk_by (N := N_law) (sc := defScope s_law) (by decide +kernel)) (fun _ _ _ _ _ => (pg_tupK (K := K) (n := 2) rfl (pgs_cons (pg_name (i := 12) sc_law.nd rfl (Or.inl rfl)) (pgs_cons (pg_name (i := 13) sc_law.nd rfl (Or.inl rfl)) pgs_nil)))) (fun _ _ _ _ _ => pts_nil) (fun _ _ _ _ _ => (pe_cmpR op_ne (pe_cmpR op_eq (pv 12) pe_int (nomark _)) (pe_cmpR op_eq (pv 13) pe_int (nomark _)) (nomark _))))) pa_nil))) (pss_one (ps_set (i := 8) sc_law.nd rfl (Or.inl rfl) (pv 6))) pss_nil)))))))
    (pss_cons (ps_set (i := 15) sc_law.nd rfl (Or.inl rfl) (pe_call (ok_sum_fails T) (hr.mono (by decide)) rfl T.g_sum_fails T.F_sum_fails.kp T.b_sum_fails .nil pass0 (pa_cons (pe_make T.M_Sum (ok_Sum_init T) (hr.mono (by decide)) rfl T.g_Sum T.b_Sum_init .nil pass0 (pa_cons (pe_ix (r := rIxL K) ix_list (pv 3) pe_int (fun _ _ => rfl)) (pa_cons (pe_ix (r := rIxL K) ix_list (pv 3) pe_int (fun _ _ => rfl)) (pa_cons (pe_ix (r := rIxL K) ix_list (pv 3) pe_int (fun _ _ => rfl)) (pa_cons (pe_ix (r := rIxL K) ix_list (pv 3) pe_int (fun _ _ => rfl)) pa_nil))))) (pa_cons (pv 2) pa_nil))))
    (pss_cons (ps_if (pt_cmpR op_ne (pe_cmpR op_isN1 (pv 15) pe_non (nomark _)) (pe_cmpR op_isN1 (pv 8) pe_non (nomark _)) (nomark _)) (pss_one (ps_ret pe_bl)) pss_nil)
    (pss_one (ps_ret (pe_or (pe_cmpR op_isN1 (pv 15) pe_non (nomark _)) (pe_one (pe_chain op_le op_lt (pe_call (ok_law_power T) (hr.mono (by decide)) rfl T.g_law_power T.F_law_power.kp T.b_law_power .nil pass0 (pa_cons (pv 4) (pa_cons (pe_op op_sub (pv 8) pe_int) pa_nil))) (pv 15) (pe_call (ok_law_power T) (hr.mono (by decide)) rfl T.g_law_power T.F_law_power.kp T.b_law_power .nil pass0 (pa_cons (pv 4) (pa_cons (pv 8) pa_nil)))))))))))))))), ?_⟩
    walk_at "g"; walk_at "mkL"; intro row H1 hrow O
    have ok : RowOk a (.lst [.ref a, .int 0, .int 120, .int 0]) := ⟨0, 120, 0, rfl, by decide, by decide, by decide, by decide⟩
    walk_at "g"
    refine use_law_taken O 0 rfl ok hS (by omega) (fun d1 o H4 hd0 hd1 ok O => ?_)
    simp only [List.set] at O
    walk_at "g"
    obtain ⟨d, hd⟩ : ∃ d : Nat, 1 + d1 = (d : Int) := ⟨(1 + d1).toNat, by omega⟩
    rw [hd]
    have hd' : 1 ≤ d ∧ d ≤ 30 := by omega
    have hd12 : d ≤ 12 := by omega
    refine use_law_sum O 0 rfl ok hS (by omega) (fun b k f l p p1 p2 o H4 so sm ok O => ?_)
    simp only [List.set] at O
    obtain ⟨bN, b2, b256⟩ := blkN_is so.hb so.hk
    have hb := so.hb
    have hk := so.hk
    walk_at "g"
    rw [bN]
    walk_at "g"
    intro pr hpr
    replace O := Own.new (o := .dT []) O hpr
    walk_at "g"; walk_at "mkT"; intro t0 H5 ht0 O
    walk_at "g"
    refine ⟨t0, [.inl 0, .inl 0], rfl, O.get 1 rfl, O.get 0 rfl, ?_⟩
    replace O := Own.put (u := PDS [(0, 0)]) O 1 rfl
    simp only [List.set] at O
    walk_at "g"
    obtain ⟨B1, s1, O, hf⟩ := Own.fixTo (New := [(t0, _), (pr, _), (p, _), (p2, _), (p1, _), (row, _)]) (Lw := []) O
    have hprB : B1 pr = some (PDS [(0, 0)]) := hf (pr, _) (by simp [PDS])
    have hpB : B1 p = some (.lst [.int b, .int k, .ref p1, .ref p2]) := hf (p, _) (by simp)
    have hp2B : B1 p2 = some (.tup (l.map V.int)) := hf (p2, _) (by simp)
    have hp1B : B1 p1 = some (.tup (f.map V.int)) := hf (p1, _) (by simp)
    clear hf s1 ok sm
    have hTold : ∀ H', Same B1 H' → ToldS K H' p b k f l := fun H' s => ⟨so, p1, p2, SqL.of (s _ _ hpB), s _ _ hp1B, s _ _ hp2B⟩
    have few := fun i q => rch_few (B := blkN b k) (d := d) (f := f) (l := l) (i := i) (q := q) b2 (by omega)
    have dd : d * d ≤ 12 * 12 := Nat.mul_le_mul hd12 hd12
    generalize hB : blkN b k = B at *
    refine ⟨fun σ H' => ∃ (B2 : Hp) (i : Nat) (fa : Option Nat) (v5 v7 v9 v10 v11 v12 v13 v14 v15 : Option V), σ = [some (.ref a), some (.ref row), some (.int (d : Nat)), some (.ref p), some (.int (B : Nat)), v5, some (.int (i : Nat)), v7, some (optN fa), v9, v10, v11, v12, v13, v14, v15] ∧ Own B2 [] H' ∧ Same B1 B2 ∧ i ≤ 30000 ∧
      ((fa = none ∧ ∃ t, 168 ≤ t ∧ t ≤ i ∧ (∀ q, Rch B d f l i q → bad q = false) ∧ ∀ q, Rch B d f l i q → Rch B d f l (i - t) q) ∨ (fa = some i ∧ FaOk B d f l i fa)), ?_, ?_⟩
    · refine a_while (fun m σ H' => ∃ (B2 : Hp) (i t : Nat) (pa : Addr) (ps : List (Int × Int)) (fa : Option Nat) (v10 v11 v12 v13 v14 v15 : Option V), σ = [some (.ref a), some (.ref row), some (.int (d : Nat)), some (.ref p), some (.int (B : Nat)), some (.int (pw B d i : Nat)), some (.int (i : Nat)), some (.ref pa), some (optN fa), some (.int (t : Nat)), v10, v11, v12, v13, v14, v15] ∧
        Own B2 [] H' ∧ Same B1 B2 ∧ B2 pa = some (PDS ps) ∧ LayOk B d f l i ps ∧ t ≤ i ∧ t ≤ 168 ∧ FaOk B d f l i fa ∧ (∀ q, Rch B d f l i q → Rch B d f l (i - t) q) ∧ i + m ≤ 30000 ∧ m = (d * d - ps.length) * 200 + (168 - t)) ?_ ?_
      · refine ⟨_, B1, 0, 0, pr, [(0, 0)], none, _, _, _, _, _, _, rfl, O, Same.refl _, hprB, ⟨by simp, fun q => by rw [rch_zero, List.mem_singleton]⟩, Nat.le_refl _, by omega, fun q hq => ?_, fun q hq => hq, ?_, rfl⟩
        · rw [rch_zero] at hq
          subst hq; rfl
        · have : (d * d - 1) * 200 ≤ (12 * 12 - 1) * 200 := Nat.mul_le_mul_right _ (by omega)
          show 0 + ((d * d - 1) * 200 + (168 - 0)) ≤ 30000
          omega
      clear O hprB
      rintro m σ H' ⟨B2, i, t, pa, ps, fa, v10, v11, v12, v13, v14, v15, rfl, O, sB, hps, lay, ti, t168, fo, flat, im, hm⟩
      cases fa with
      | some x =>
        obtain rfl := fo.1
        rw [optN_some]
        walk_at "g"
        exact ⟨B2, x, some x, _, _, _, _, _, _, _, _, _, rfl, O, sB, by omega, .inr ⟨rfl, fo⟩⟩
      | none =>
        rw [optN_none]
        walk_at "g"
        refine a_it2 (fun c => ?_) (fun c => ?_)
        · refine a_turn ?_
          walk_at "g"
          refine ⟨p, b, k, f, l, i, by simp, hTold _ (sB.trans O.st), ?_⟩
          walk_at "g"
          have pl := lay.few (by omega)
          have bds := fun q hq => rch_bd (by omega) ((lay.2 q).mp hq)
          refine a_dupT (O.st _ _ hps) O lay.1 (fun q hq => by have := bds q hq; omega) (fun qa H6 O => ?_)
          walk_at "g"
          have hu : ((B ^ i : Nat) : Int) % d = ((pw B d i : Nat) : Int) := by rw [pw_pow, Int.natCast_emod]
          have few := few i
          rw [hu] at few
          have hu1 := pw_lt (B := B) (d := d) (by omega) i
          have hw1 : 0 ≤ wt f l i % d ∧ wt f l i % d < d := ⟨Int.emod_nonneg _ (by omega), Int.emod_lt_of_pos _ (by omega)⟩
          have nxt : ((pw B d i : Nat) : Int) * (B : Int) % (d : Int) = ((pw B d (i + 1) : Nat) : Int) := pw_next B d i
          generalize hu2 : ((pw B d i : Nat) : Int) = u at *
          generalize hw : wt f l i % d = w at *
          refine a_lockS O hps (fun od H1 O => ?_)
          walk_at "g"
          refine ⟨pa, od, rfl, .inr ⟨ps.map ent, O.get 0 rfl, ?_⟩⟩
          refine for_it walk_keysT (fun j σ H' => ∃ (qs : List (Int × Int)) (Lw : List (Addr × HO)) (v12 v13 v14 : Option V), σ = [some (.ref a), some (.ref row), some (.int (d : Nat)), some (.ref p), some (.int (B : Nat)), some (.int u), some (.int (i : Nat)), some (.ref pa), some .non, some (.int (t : Nat)), some (.int w), some (.ref qa), v12, v13, v14, v15] ∧
            Own (del1 B2 pa) ((pa, .frz od (PDS ps)) :: (qa, PDS qs) :: Lw) H' ∧ qs.Nodup ∧ qs.length ≤ 144 + 12 * j ∧ ∀ q, q ∈ qs ↔ q ∈ ps ∨ ∃ r ∈ ps.take j, ∃ x, x < min B d ∧ q = stepP d u w r x) ⟨ps, [], _, _, _, rfl, O, lay.1, by omega, fun q => by simp⟩ (fun j σ H' _ ⟨_, _, _, _, _, _, O, _⟩ => O.get 0 rfl) ?_ ?_
          · clear O
            rintro j x σ H1 H' hj ⟨qs, Lw, v12, v13, v14, rfl, O, nd, ql, mem⟩ hy
            rw [List.length_map] at hj
            obtain ⟨rfl, jl, q0, rfl, hq0⟩ := key_at hy
            refine a_gtup (SqT.of hq0) rfl ?_
            walk_at "g"
            refine ⟨_, _, rfl, ?_⟩
            rw [show (if (d : Int) < (B : Int) then (d : Int) else (B : Int)) = ((min B d : Nat) : Int) by split <;> omega]
            walk_at "g"
            have bj := bds ps[j] (List.getElem_mem jl)
            refine for_range (fun m σ H' => ∃ (qs : List (Int × Int)) (Lw : List (Addr × HO)) (v14 : Option V), σ = [some (.ref a), some (.ref row), some (.int (d : Nat)), some (.ref p), some (.int (B : Nat)), some (.int u), some (.int (i : Nat)), some (.ref pa), some .non, some (.int (t : Nat)), some (.int w), some (.ref qa), some (.int ps[j].1), some (.int ps[j].2), v14, v15] ∧
              Own (del1 B2 pa) ((pa, .frz od (PDS ps)) :: (qa, PDS qs) :: Lw) H' ∧ qs.Nodup ∧ qs.length ≤ 144 + 12 * j + m ∧ ∀ q, q ∈ qs ↔ q ∈ ps ∨ (∃ r ∈ ps.take j, ∃ x, x < min B d ∧ q = stepP d u w r x) ∨ ∃ x, x < m + 1 ∧ q = stepP d u w ps[j] x) ⟨qs, Lw, _, rfl, O, nd, ql, fun q => ?_⟩ ?_ ?_
            · rw [mem q]
              constructor
              · rintro (h1 | h1)
                · exact .inl h1
                · exact .inr (.inl h1)
              · rintro (h1 | h1 | ⟨x, hx, e⟩)
                · exact .inl h1
                · exact .inr h1
                · obtain rfl : x = 0 := by omega
                  rw [step_zero bj] at e
                  exact .inl (by rw [e]; exact List.getElem_mem jl)
            · clear O nd ql mem
              rintro m' σ H' hm' ⟨qs, Lw, v14, rfl, O, nd, ql, mem⟩
              have hm' : m' + 1 < min B d := by omega
              rw [show (1 : Int) + (m' : Int) = ((m' + 1 : Nat) : Int) by omega]
              walk_at "g"; walk_at "mkT"; intro t2 H2 ht2 O
              walk_at "g"
              refine a_putP (q := stepP d u w ps[j] (m' + 1)) O 2 rfl (O.get 0 rfl) (by omega) _ (fun H3 O => ?_)
              simp only [List.set] at O
              refine ⟨addP qs (stepP d u w ps[j] (m' + 1)), (t2, .tup [.int ((ps[j].1 + ((m' + 1 : Nat) : Int) * u) % d), .int ((ps[j].2 + ((m' + 1 : Nat) : Int) * w) % d)]) :: Lw, some (.int ((m' + 1 : Nat) : Int)), rfl, ?_, addP_nodup nd, by have := addP_len qs (stepP d u w ps[j] (m' + 1)); omega, fun q => ?_⟩
              · exact O.perm (List.perm_append_comm (l₁ := [(pa, _), (qa, _)]) (l₂ := [(t2, _)]) |>.append_right Lw)
              · rw [addP_mem, mem q, or_assoc, or_assoc]
                refine or_congr Iff.rfl (or_congr Iff.rfl ⟨?_, ?_⟩)
                · rintro (⟨x, hx, e⟩ | e)
                  · exact ⟨x, by omega, e⟩
                  · exact ⟨m' + 1, by omega, e⟩
                · rintro ⟨x, hx, e⟩
                  by_cases c : x = m' + 1
                  · subst c; exact .inr e
                  · exact .inl ⟨x, by omega, e⟩
            · clear O nd ql mem
              rintro σ H' ⟨qs, Lw, v14, rfl, O, nd, ql, mem⟩
              walk_at "g"
              refine ⟨qs, Lw, _, _, _, rfl, O, nd, by omega, fun q => ?_⟩
              rw [mem q, List.take_succ, List.getElem?_eq_getElem jl]
              refine or_congr Iff.rfl ⟨?_, ?_⟩
              · rintro (⟨r, hr, x, hx, e⟩ | ⟨x, hx, e⟩)
                · exact ⟨r, List.mem_append.mpr (.inl hr), x, hx, e⟩
                · exact ⟨ps[j], List.mem_append.mpr (.inr (by simp)), x, by omega, e⟩
              · rintro ⟨r, hr, x, hx, e⟩
                rcases List.mem_append.mp hr with hr | hr
                · exact .inl ⟨r, hr, x, hx, e⟩
                · have hr : r = ps[j] := by simpa using hr
                  subst hr
                  exact .inr ⟨x, by omega, e⟩
          clear O
          rintro σ H' ⟨qs, Lw, v12, v13, v14, rfl, O, nd, ql, mem⟩
          rw [List.length_map, List.take_length] at mem
          refine ⟨O.get 0 rfl, ?_⟩
          replace O := Own.back O hps
          have layq : LayOk B d f l (i + 1) qs := ⟨nd, fun q => by
            rw [mem q, few q]
            constructor
            · rintro (h1 | ⟨r, hr, x, hx, e⟩)
              · exact ⟨q, (lay.2 q).mp h1, 0, by omega, (step_zero (bds q h1)).symm⟩
              · exact ⟨r, (lay.2 r).mp hr, x, hx, e⟩
            · rintro ⟨r, hr, x, hx, e⟩
              exact .inr ⟨r, (lay.2 r).mpr hr, x, hx, e⟩⟩
          have qsl := layq.few (by omega)
          walk_at "g"
          have sub : ∀ q, q ∈ ps → q ∈ qs := fun q hq => (mem q).mpr (.inl hq)
          have lle := nodup_leG lay.1 sub
          clear mem few
          refine ⟨fun σ H' => ∃ t' : Nat, σ = [some (.ref a), some (.ref row), some (.int (d : Nat)), some (.ref p), some (.int (B : Nat)), some (.int u), some (.int (i : Nat)), some (.ref pa), some .non, some (.int (t' : Nat)), some (.int w), some (.ref qa), v12, v13, v14, v15] ∧ Own B2 [(qa, PDS qs)] H' ∧ ((t' = t + 1 ∧ qs.length ≤ ps.length) ∨ (t' = 0 ∧ ps.length < qs.length)), ?_, ?_⟩
          · walk_at "g"
            refine a_lenP (O.get 0 rfl) ?_
            walk_at "g"
            refine a_lenP (O.st _ _ hps) ?_
            walk_at "g"
            refine a_it2 (fun c2 => ?_) (fun c2 => ?_)
            · walk_at "g"
              exact ⟨t + 1, rfl, O.less (.cons_cons _ (List.nil_sublist _)), .inl ⟨rfl, by omega⟩⟩
            · walk_at "g"
              exact ⟨0, rfl, O.less (.cons_cons _ (List.nil_sublist _)), .inr ⟨rfl, by omega⟩⟩
          clear O
          rintro σ H' ⟨t', rfl, O, ht'⟩
          have O2 := O.fix
          have s2 := O.fixS
          replace O := O2
          clear O2
          have hqB : upd B2 qa (PDS qs) qa = some (PDS qs) := upd_same
          replace sB := sB.trans s2
          generalize upd B2 qa (PDS qs) = B3 at *
          clear hps s2
          walk_at "g"
          rw [nxt]
          have anyb : qs.any bad = true ↔ ∃ q, Rch B d f l (i + 1) q ∧ bad q = true := by
            rw [List.any_eq_true]
            exact ⟨fun ⟨q, h1, h2⟩ => ⟨q, (layq.2 q).mp h1, h2⟩, fun ⟨q, h1, h2⟩ => ⟨q, (layq.2 q).mpr h1, h2⟩⟩
          have flat' : ∀ q, Rch B d f l (i + 1) q → Rch B d f l (i + 1 - t') q := fun q hq => by
            rcases ht' with ⟨e, le⟩ | ⟨e, _⟩
            · rw [show i + 1 - t' = i - t by omega]
              exact flat q ((lay.2 q).mp (nodup_full lay.1 sub le q ((layq.2 q).mpr hq)))
            · rw [e]; exact hq
          have meas : (d * d - qs.length) * 200 + (168 - t') < m := by omega
          have tt : t' ≤ i + 1 ∧ t' ≤ 168 := by omega
          refine a_lockE O hqB (fun od H1 O => ?_)
          walk_at "g"
          refine ⟨qa, od, rfl, .inr ⟨qs.map ent, O.get 0 rfl, fun D hD => ?_⟩⟩
          replace O := Own.new (o := .lst []) O hD
          refine lc_it walk_keysT (fun i H' => ∃ bs : List Bool, Own (del1 B3 qa) [(D, .lst (bs.map V.bl)), (qa, .frz od (PDS qs))] H' ∧ bs.length = i ∧ bs.any id = (qs.take i).any bad) ⟨[], O, rfl, rfl⟩ (fun i H' _ ⟨_, O, _⟩ => O.get 1 rfl) ?_ ?_
          · clear O
            rintro i x H1 H' hi ⟨bs, O, bl, ba⟩ hy
            rw [List.length_map] at hi
            obtain ⟨rfl, il, q, rfl, hq⟩ := key_at hy
            refine a_gtup (SqT.of hq) rfl ?_
            walk_at "g"
            refine ⟨rfl, ?_⟩
            walk_at "g"
            refine ⟨_, O.get 0 rfl, Nat.lt_of_lt_of_le (show _ < 20000 by rw [List.length_map]; omega) (by decide), ?_⟩
            refine ⟨bs ++ [bad qs[i]], ?_, by rw [List.length_append, bl]; rfl, ?_⟩
            · rw [List.map_append]
              exact Own.put O 0 rfl
            · rw [List.take_succ, List.getElem?_eq_getElem il, List.any_append, List.any_append, ba]
              simp
          clear O
          rintro H' ⟨bs, O, bl, ba⟩
          rw [List.length_map, List.take_length] at ba
          refine ⟨O.get 1 rfl, ?_⟩
          replace O := Own.back (O.swap) hqB
          walk_at "g"
          refine ⟨D, bs, rfl, Own.sq O 0 rfl, ?_⟩
          rw [ba]
          replace O := O.tail
          walk_at "g"
          refine a_itB (fun e => ?_) (fun e => ?_)
          · walk_at "g"
            exact ⟨_, meas, B3, i + 1, t', qa, qs, some (i + 1), _, _, _, _, _, _, rfl, O, sB, hqB, layq, tt.1, tt.2, ⟨rfl, by omega, anyb.mp e, fun q hq => fo q hq⟩, flat', by omega, rfl⟩
          · walk_at "g"
            have nobn : FaOk B d f l (i + 1) none := fun q hq => by
              cases c : bad q with
              | false => rfl
              | true => rw [anyb.mpr ⟨q, hq, c⟩] at e; cases e
            exact ⟨_, meas, B3, i + 1, t', qa, qs, none, _, _, _, _, _, _, rfl, O, sB, hqB, layq, tt.1, tt.2, nobn, flat', by omega, rfl⟩
        · walk_at "g"
          exact ⟨B2, i, none, _, _, _, _, _, _, _, _, _, rfl, O, sB, by omega, .inl ⟨rfl, t, by omega, ti, fo, flat⟩⟩
    clear O hprB
    rintro σ H' ⟨B2, i, fa, v5, v7, v9, v10, v11, v12, v13, v14, v15, rfl, O, sB, hi, fin⟩
    walk_at "g"
    have hp' := SqL.of (K := K) (O.st _ _ (sB _ _ hpB))
    refine a_ixL hp' (v := .int b) rfl ?_
    walk_at "g"
    refine use_Sum O so (O.st _ _ (sB _ _ hp1B)) (O.st _ _ (sB _ _ hp2B)) (fun x H6 O ha => ?_)
    walk_at "g"
    refine ⟨x, b, k, f, l, d, rfl, ha, hd', fun s H7 s7 fs => ?_⟩
    rw [hB] at fs
    replace O := O.same s7
    rcases fin with ⟨rfl, t, t168, ti, nob, flat⟩ | ⟨rfl, _, i1, ⟨q, ⟨n, hn, rfl⟩, hq⟩, low⟩
    · obtain ⟨n0, a0, po⟩ := pow_ex (B := B) (d := d) (by omega)
      have lk := look12 (f := f) (l := l) (by omega) po hd12 so.hf so.hl.2
      have cl := rch_closed (B := B) (d := d) (f := f) (l := l) b2 so.hl.1 po (j := i - lookN f l n0 a0) (by
        rw [show i - lookN f l n0 a0 + lookN f l n0 a0 = i by omega]
        intro q hq
        exact rch_le b2 (flat q hq) _ (by omega))
      rw [show i - lookN f l n0 a0 + lookN f l n0 a0 = i by omega] at cl
      have nb := none_bad b2 cl nob
      have es : s = none := by
        cases s with
        | none => rfl
        | some y => have := fs.1; rw [nb y] at this; cases this
      subst es
      rw [optN_none]
      walk_at "g"
      rw [if_neg (by decide)]
      walk_at "g"
      exact h _
    · rw [← badN_rch b2 hn] at hq
      obtain ⟨y, rfl, yn⟩ := fs.ge hq
      have y2 : B ^ (i - 1) ≤ y := by
        by_cases c : y < B ^ (i - 1)
        · have z := fs.1
          rw [badN_rch b2 c, low _ ⟨y, c, rfl⟩] at z
          cases z
        · omega
      have y1 : y < B ^ i := by omega
      have e1 : (B : Int) ^ ((i : Int) - 1).toNat = ((B ^ (i - 1) : Nat) : Int) := by rw [show ((i : Int) - 1).toNat = i - 1 by omega, Int.natCast_pow]
      have e2 : (B : Int) ^ ((i : Int)).toNat = ((B ^ i : Nat) : Int) := by rw [Int.toNat_natCast, Int.natCast_pow]
      rw [optN_some, optN_some]
      walk_at "g"
      rw [if_neg (by decide)]
      walk_at "g"
      rw [e2, decide_eq_true (by omega)]
      exact h _

end
theorem all_mk {l : PySem.W.OpenLaw} {w : World} {K : Frag} {h : Heap} {mg : Str → Option Value} {fa f0 f1 f2 f3 f4 f5 f6 f7 f8 f9 f10 f11 f12 f13 f14 f15 f16 f17 f18 f19 f20 f21 CSum : Addr} (X : K.In h) (G : h.Ns mainGlobals mg) (hfa : mg "law" = some (.ref fa))
    {od0 an0 : Option Addr} {sl0 : Array (Option Value)} {oc0 kV0 dc0 pm0 cd0 ct0 : Value}
    {od1 an1 : Option Addr} {sl1 : Array (Option Value)} {oc1 kV1 dc1 pm1 cd1 ct1 : Value}
    {od2 an2 : Option Addr} {sl2 : Array (Option Value)} {oc2 kV2 dc2 pm2 cd2 ct2 : Value}
    {od3 an3 : Option Addr} {sl3 : Array (Option Value)} {oc3 kV3 dc3 pm3 cd3 ct3 : Value}
    {od4 an4 : Option Addr} {sl4 : Array (Option Value)} {oc4 kV4 dc4 pm4 cd4 ct4 : Value}
    {od5 an5 : Option Addr} {sl5 : Array (Option Value)} {oc5 kV5 dc5 pm5 cd5 ct5 : Value}
    {od6 an6 : Option Addr} {sl6 : Array (Option Value)} {oc6 kV6 dc6 pm6 cd6 ct6 : Value}
    {od7 an7 : Option Addr} {sl7 : Array (Option Value)} {oc7 kV7 dc7 pm7 cd7 ct7 : Value}
    {od8 an8 : Option Addr} {sl8 : Array (Option Value)} {oc8 kV8 dc8 pm8 cd8 ct8 : Value}
    {od9 an9 : Option Addr} {sl9 : Array (Option Value)} {oc9 kV9 dc9 pm9 cd9 ct9 : Value}
    {od10 an10 : Option Addr} {sl10 : Array (Option Value)} {oc10 kV10 dc10 pm10 cd10 ct10 : Value}
    {od11 an11 : Option Addr} {sl11 : Array (Option Value)} {oc11 kV11 dc11 pm11 cd11 ct11 : Value}
    {od12 an12 : Option Addr} {sl12 : Array (Option Value)} {oc12 kV12 dc12 pm12 cd12 ct12 : Value}
    {od13 an13 : Option Addr} {sl13 : Array (Option Value)} {oc13 kV13 dc13 pm13 cd13 ct13 : Value}
    {od14 an14 : Option Addr} {sl14 : Array (Option Value)} {oc14 kV14 dc14 pm14 cd14 ct14 : Value}
    {od15 an15 : Option Addr} {sl15 : Array (Option Value)} {oc15 kV15 dc15 pm15 cd15 ct15 : Value}
    {od16 an16 : Option Addr} {sl16 : Array (Option Value)} {oc16 kV16 dc16 pm16 cd16 ct16 : Value}
    {od17 an17 : Option Addr} {sl17 : Array (Option Value)} {oc17 kV17 dc17 pm17 cd17 ct17 : Value}
    {od18 an18 : Option Addr} {sl18 : Array (Option Value)} {oc18 kV18 dc18 pm18 cd18 ct18 : Value}
    {od19 an19 : Option Addr} {sl19 : Array (Option Value)} {oc19 kV19 dc19 pm19 cd19 ct19 : Value}
    {od20 an20 : Option Addr} {sl20 : Array (Option Value)} {oc20 kV20 dc20 pm20 cd20 ct20 : Value}
    {od21 an21 : Option Addr} {sl21 : Array (Option Value)} {oc21 kV21 dc21 pm21 cd21 ct21 : Value}
    {tk_LEAST_BASE : Tok}
    {tk_MOST_BASE : Tok}
    {tk_MOST_TAKE : Tok}
    {tk_MOST_WEIGHT : Tok}
    {tk_MOST_WEIGHTS : Tok}
    {tk_MOST_SUM_DIVISOR : Tok}
    (a0 : PySem.W.nsIn K mainGlobals "is_from" = some (some (.ref f0)))
    (l0 : K.lookup f0 = some ⟨oc0, od0, .func (PySem.W.fnOf "is_from" "is_from" (defArgs s_is_from) (defBody s_is_from) (defScope s_is_from) .none kV0 dc0 pm0 an0 cd0 ct0), sl0⟩)
    (c0 : PySem.W.codeIn K cd0 "is_from" = true)
    (k0 : PySem.W.keepIn K (.ref f0) = true)
    (a1 : PySem.W.nsIn K mainGlobals "need_base" = some (some (.ref f1)))
    (l1 : K.lookup f1 = some ⟨oc1, od1, .func (PySem.W.fnOf "need_base" "need_base" (defArgs s_need_base) (defBody s_need_base) (defScope s_need_base) .none kV1 dc1 pm1 an1 cd1 ct1), sl1⟩)
    (c1 : PySem.W.codeIn K cd1 "need_base" = true)
    (k1 : PySem.W.keepIn K (.ref f1) = true)
    (a2 : PySem.W.nsIn K mainGlobals "need_divisor" = some (some (.ref f2)))
    (l2 : K.lookup f2 = some ⟨oc2, od2, .func (PySem.W.fnOf "need_divisor" "need_divisor" (defArgs s_need_divisor) (defBody s_need_divisor) (defScope s_need_divisor) .none kV2 dc2 pm2 an2 cd2 ct2), sl2⟩)
    (c2 : PySem.W.codeIn K cd2 "need_divisor" = true)
    (k2 : PySem.W.keepIn K (.ref f2) = true)
    (a3 : PySem.W.nsIn K mainGlobals "common" = some (some (.ref f3)))
    (l3 : K.lookup f3 = some ⟨oc3, od3, .func (PySem.W.fnOf "common" "common" (defArgs s_common) (defBody s_common) (defScope s_common) .none kV3 dc3 pm3 an3 cd3 ct3), sl3⟩)
    (c3 : PySem.W.codeIn K cd3 "common" = true)
    (k3 : PySem.W.keepIn K (.ref f3) = true)
    (a4 : PySem.W.nsIn K mainGlobals "power" = some (some (.ref f4)))
    (l4 : K.lookup f4 = some ⟨oc4, od4, .func (PySem.W.fnOf "power" "power" (defArgs s_power) (defBody s_power) (defScope s_power) .none kV4 dc4 pm4 an4 cd4 ct4), sl4⟩)
    (c4 : PySem.W.codeIn K cd4 "power" = true)
    (k4 : PySem.W.keepIn K (.ref f4) = true)
    (a5 : PySem.W.nsIn K mainGlobals "need_weights" = some (some (.ref f5)))
    (l5 : K.lookup f5 = some ⟨oc5, od5, .func (PySem.W.fnOf "need_weights" "need_weights" (defArgs s_need_weights) (defBody s_need_weights) (defScope s_need_weights) .none kV5 dc5 pm5 an5 cd5 ct5), sl5⟩)
    (c5 : PySem.W.codeIn K cd5 "need_weights" = true)
    (k5 : PySem.W.keepIn K (.ref f5) = true)
    (a6 : PySem.W.findIn K (.ref CSum) "__init__" = some (some (.ref f6)))
    (i6 : PySem.W.isFn K (.ref f6) = true)
    (l6 : K.lookup f6 = some ⟨oc6, od6, .func (PySem.W.fnOf "__init__" "Sum.__init__" (defArgs s_Sum_init) (defBody s_Sum_init) (defScope s_Sum_init) .none kV6 dc6 pm6 an6 cd6 ct6), sl6⟩)
    (c6 : PySem.W.codeIn K cd6 "Sum.__init__" = true)
    (k6 : PySem.W.keepIn K (.ref f6) = true)
    (a7 : PySem.W.nsIn K mainGlobals "need_sum" = some (some (.ref f7)))
    (l7 : K.lookup f7 = some ⟨oc7, od7, .func (PySem.W.fnOf "need_sum" "need_sum" (defArgs s_need_sum) (defBody s_need_sum) (defScope s_need_sum) .none kV7 dc7 pm7 an7 cd7 ct7), sl7⟩)
    (c7 : PySem.W.codeIn K cd7 "need_sum" = true)
    (k7 : PySem.W.keepIn K (.ref f7) = true)
    (a8 : PySem.W.nsIn K mainGlobals "weight_at" = some (some (.ref f8)))
    (l8 : K.lookup f8 = some ⟨oc8, od8, .func (PySem.W.fnOf "weight_at" "weight_at" (defArgs s_weight_at) (defBody s_weight_at) (defScope s_weight_at) .none kV8 dc8 pm8 an8 cd8 ct8), sl8⟩)
    (c8 : PySem.W.codeIn K cd8 "weight_at" = true)
    (k8 : PySem.W.keepIn K (.ref f8) = true)
    (a9 : PySem.W.nsIn K mainGlobals "powers_of" = some (some (.ref f9)))
    (l9 : K.lookup f9 = some ⟨oc9, od9, .func (PySem.W.fnOf "powers_of" "powers_of" (defArgs s_powers_of) (defBody s_powers_of) (defScope s_powers_of) .none kV9 dc9 pm9 an9 cd9 ct9), sl9⟩)
    (c9 : PySem.W.codeIn K cd9 "powers_of" = true)
    (k9 : PySem.W.keepIn K (.ref f9) = true)
    (a10 : PySem.W.nsIn K mainGlobals "look_of" = some (some (.ref f10)))
    (l10 : K.lookup f10 = some ⟨oc10, od10, .func (PySem.W.fnOf "look_of" "look_of" (defArgs s_look_of) (defBody s_look_of) (defScope s_look_of) .none kV10 dc10 pm10 an10 cd10 ct10), sl10⟩)
    (c10 : PySem.W.codeIn K cd10 "look_of" = true)
    (k10 : PySem.W.keepIn K (.ref f10) = true)
    (a11 : PySem.W.nsIn K mainGlobals "longer" = some (some (.ref f11)))
    (l11 : K.lookup f11 = some ⟨oc11, od11, .func (PySem.W.fnOf "longer" "longer" (defArgs s_longer) (defBody s_longer) (defScope s_longer) .none kV11 dc11 pm11 an11 cd11 ct11), sl11⟩)
    (c11 : PySem.W.codeIn K cd11 "longer" = true)
    (k11 : PySem.W.keepIn K (.ref f11) = true)
    (a12 : PySem.W.nsIn K mainGlobals "is_bad" = some (some (.ref f12)))
    (l12 : K.lookup f12 = some ⟨oc12, od12, .func (PySem.W.fnOf "is_bad" "is_bad" (defArgs s_is_bad) (defBody s_is_bad) (defScope s_is_bad) .none kV12 dc12 pm12 an12 cd12 ct12), sl12⟩)
    (c12 : PySem.W.codeIn K cd12 "is_bad" = true)
    (k12 : PySem.W.keepIn K (.ref f12) = true)
    (a13 : PySem.W.nsIn K mainGlobals "layers_of" = some (some (.ref f13)))
    (l13 : K.lookup f13 = some ⟨oc13, od13, .func (PySem.W.fnOf "layers_of" "layers_of" (defArgs s_layers_of) (defBody s_layers_of) (defScope s_layers_of) .none kV13 dc13 pm13 an13 cd13 ct13), sl13⟩)
    (c13 : PySem.W.codeIn K cd13 "layers_of" = true)
    (k13 : PySem.W.keepIn K (.ref f13) = true)
    (a14 : PySem.W.nsIn K mainGlobals "can_be_bad" = some (some (.ref f14)))
    (l14 : K.lookup f14 = some ⟨oc14, od14, .func (PySem.W.fnOf "can_be_bad" "can_be_bad" (defArgs s_can_be_bad) (defBody s_can_be_bad) (defScope s_can_be_bad) .none kV14 dc14 pm14 an14 cd14 ct14), sl14⟩)
    (c14 : PySem.W.codeIn K cd14 "can_be_bad" = true)
    (k14 : PySem.W.keepIn K (.ref f14) = true)
    (a15 : PySem.W.nsIn K mainGlobals "first_fail" = some (some (.ref f15)))
    (l15 : K.lookup f15 = some ⟨oc15, od15, .func (PySem.W.fnOf "first_fail" "first_fail" (defArgs s_first_fail) (defBody s_first_fail) (defScope s_first_fail) .none kV15 dc15 pm15 an15 cd15 ct15), sl15⟩)
    (c15 : PySem.W.codeIn K cd15 "first_fail" = true)
    (k15 : PySem.W.keepIn K (.ref f15) = true)
    (a16 : PySem.W.nsIn K mainGlobals "sum_fails" = some (some (.ref f16)))
    (l16 : K.lookup f16 = some ⟨oc16, od16, .func (PySem.W.fnOf "sum_fails" "sum_fails" (defArgs s_sum_fails) (defBody s_sum_fails) (defScope s_sum_fails) .none kV16 dc16 pm16 an16 cd16 ct16), sl16⟩)
    (c16 : PySem.W.codeIn K cd16 "sum_fails" = true)
    (k16 : PySem.W.keepIn K (.ref f16) = true)
    (a17 : PySem.W.nsIn K mainGlobals "_law_taken" = some (some (.ref f17)))
    (l17 : K.lookup f17 = some ⟨oc17, od17, .func (PySem.W.fnOf "_law_taken" "_law_taken" (defArgs s_law_taken) (defBody s_law_taken) (defScope s_law_taken) .none kV17 dc17 pm17 an17 cd17 ct17), sl17⟩)
    (c17 : PySem.W.codeIn K cd17 "_law_taken" = true)
    (k17 : PySem.W.keepIn K (.ref f17) = true)
    (a18 : PySem.W.nsIn K mainGlobals "_law_power" = some (some (.ref f18)))
    (l18 : K.lookup f18 = some ⟨oc18, od18, .func (PySem.W.fnOf "_law_power" "_law_power" (defArgs s_law_power) (defBody s_law_power) (defScope s_law_power) .none kV18 dc18 pm18 an18 cd18 ct18), sl18⟩)
    (c18 : PySem.W.codeIn K cd18 "_law_power" = true)
    (k18 : PySem.W.keepIn K (.ref f18) = true)
    (a19 : PySem.W.nsIn K mainGlobals "_law_sum" = some (some (.ref f19)))
    (l19 : K.lookup f19 = some ⟨oc19, od19, .func (PySem.W.fnOf "_law_sum" "_law_sum" (defArgs s_law_sum) (defBody s_law_sum) (defScope s_law_sum) .none kV19 dc19 pm19 an19 cd19 ct19), sl19⟩)
    (c19 : PySem.W.codeIn K cd19 "_law_sum" = true)
    (k19 : PySem.W.keepIn K (.ref f19) = true)
    (a20 : PySem.W.nsIn K mainGlobals "_law_weight" = some (some (.ref f20)))
    (l20 : K.lookup f20 = some ⟨oc20, od20, .func (PySem.W.fnOf "_law_weight" "_law_weight" (defArgs s_law_weight) (defBody s_law_weight) (defScope s_law_weight) .none kV20 dc20 pm20 an20 cd20 ct20), sl20⟩)
    (c20 : PySem.W.codeIn K cd20 "_law_weight" = true)
    (k20 : PySem.W.keepIn K (.ref f20) = true)
    (a21 : PySem.W.nsIn K mainGlobals "law" = some (some (.ref f21)))
    (l21 : K.lookup f21 = some ⟨oc21, od21, .func (PySem.W.fnOf "law" "law" (defArgs s_law) (defBody s_law) (defScope s_law) .none kV21 dc21 pm21 an21 cd21 ct21), sl21⟩)
    (c21 : PySem.W.codeIn K cd21 "law" = true)
    (k21 : PySem.W.keepIn K (.ref f21) = true)
    (aCSum : PySem.W.nsIn K mainGlobals "Sum" = some (some (.ref CSum)))
    (pgSum : PySem.W.plainGet K CSum Str.empty = true)
    (hdSum : PySem.W.hasDictIn K CSum = true)
    (poSum : PySem.W.plainOver K CSum = true)
    (saSum : PySem.W.findIn K (.ref CSum) "__setattr__" = some (some (.builtin "object.__setattr__")))
    (mkSum : PySem.W.makesIn K CSum = true)
    (kcSum : PySem.W.keepIn K (.ref CSum) = true)
    (icSum : PySem.W.findIn K (.ref CSum) "__class__" = some (some (.builtin "object.__class__")))
    (mcSum : PySem.W.mroIn K CSum (.type "object") = some true)
    (nfSum_basis : PySem.W.findIn K (.ref CSum) "basis" = some none)
    (nfSum_many : PySem.W.findIn K (.ref CSum) "many" = some none)
    (nfSum_begun : PySem.W.findIn K (.ref CSum) "begun" = some none)
    (nfSum_again : PySem.W.findIn K (.ref CSum) "again" = some none)
    (nfSum_block : PySem.W.findIn K (.ref CSum) "block" = some none)
    (snA : PySem.W.specialIn K (.builtin "object.__class__") "__get__" = some (some (.builtin "getset_descriptor.__get__")))
    (tkA : PySem.W.takesIn K (.builtin "object.__class__") = some true)
    (v_LEAST_BASE : PySem.W.nsIn K mainGlobals "LEAST_BASE" = some (some (.int (2) tk_LEAST_BASE)))
    (v_MOST_BASE : PySem.W.nsIn K mainGlobals "MOST_BASE" = some (some (.int (16) tk_MOST_BASE)))
    (v_MOST_TAKE : PySem.W.nsIn K mainGlobals "MOST_TAKE" = some (some (.int (2) tk_MOST_TAKE)))
    (v_MOST_WEIGHT : PySem.W.nsIn K mainGlobals "MOST_WEIGHT" = some (some (.int (1000000) tk_MOST_WEIGHT)))
    (v_MOST_WEIGHTS : PySem.W.nsIn K mainGlobals "MOST_WEIGHTS" = some (some (.int (12) tk_MOST_WEIGHTS)))
    (v_MOST_SUM_DIVISOR : PySem.W.nsIn K mainGlobals "MOST_SUM_DIVISOR" = some (some (.int (30) tk_MOST_SUM_DIVISOR)))
    (z_isinstance : PySem.W.nsIn K mainGlobals "isinstance" = some none)
    (z_int : PySem.W.nsIn K mainGlobals "int" = some none)
    (z_bool : PySem.W.nsIn K mainGlobals "bool" = some none)
    (z_abs : PySem.W.nsIn K mainGlobals "abs" = some none)
    (z_range : PySem.W.nsIn K mainGlobals "range" = some none)
    (z_enumerate : PySem.W.nsIn K mainGlobals "enumerate" = some none)
    (z_tuple : PySem.W.nsIn K mainGlobals "tuple" = some none)
    (z_len : PySem.W.nsIn K mainGlobals "len" = some none)
    (z_max : PySem.W.nsIn K mainGlobals "max" = some none)
    (z_min : PySem.W.nsIn K mainGlobals "min" = some none)
    (z_any : PySem.W.nsIn K mainGlobals "any" = some none)
    (z_dict : PySem.W.nsIn K mainGlobals "dict" = some none)
    : ∃ fd : FuncData, (∀ (s : Shared) (v : Value), BindsTo s fd ⟨[v], []⟩ [("_law_script", v)]) ∧ ∀ base : Heap, K.In base → base.Ns mainGlobals mg → FnOk l.prog w K mg base CX0 6 fa fd ["_law_script"] (sp_law K) := by
  have e := hfa.symm.trans (PySem.W.mg_of X G a21)
  cases e
  have F0 := fun_mk (st := s_is_from) l0 c0 k0
  have b0 := F0.binds (ps := p_is_from) fun _ _ _ _ _ _ us hl => match us, hl with | [_, _, _], _ => rfl
  have F1 := fun_mk (st := s_need_base) l1 c1 k1
  have b1 := F1.binds (ps := p_need_base) fun _ _ _ _ _ _ us hl => match us, hl with | [_], _ => rfl
  have F2 := fun_mk (st := s_need_divisor) l2 c2 k2
  have b2 := F2.binds (ps := p_need_divisor) fun _ _ _ _ _ _ us hl => match us, hl with | [_, _], _ => rfl
  have F3 := fun_mk (st := s_common) l3 c3 k3
  have b3 := F3.binds (ps := p_common) fun _ _ _ _ _ _ us hl => match us, hl with | [_, _], _ => rfl
  have F4 := fun_mk (st := s_power) l4 c4 k4
  have b4 := F4.binds (ps := p_power) fun _ _ _ _ _ _ us hl => match us, hl with | [_, _], _ => rfl
  have F5 := fun_mk (st := s_need_weights) l5 c5 k5
  have b5 := F5.binds (ps := p_need_weights) fun _ _ _ _ _ _ us hl => match us, hl with | [_, _], _ => rfl
  have F6 := fun_mk (st := s_Sum_init) l6 c6 k6
  have b6 := F6.binds (ps := p_Sum_init) fun _ _ _ _ _ _ us hl => match us, hl with | [_, _, _, _, _], _ => rfl
  have F7 := fun_mk (st := s_need_sum) l7 c7 k7
  have b7 := F7.binds (ps := p_need_sum) fun _ _ _ _ _ _ us hl => match us, hl with | [_], _ => rfl
  have F8 := fun_mk (st := s_weight_at) l8 c8 k8
  have b8 := F8.binds (ps := p_weight_at) fun _ _ _ _ _ _ us hl => match us, hl with | [_, _], _ => rfl
  have F9 := fun_mk (st := s_powers_of) l9 c9 k9
  have b9 := F9.binds (ps := p_powers_of) fun _ _ _ _ _ _ us hl => match us, hl with | [_, _], _ => rfl
  have F10 := fun_mk (st := s_look_of) l10 c10 k10
  have b10 := F10.binds (ps := p_look_of) fun _ _ _ _ _ _ us hl => match us, hl with | [_, _], _ => rfl
  have F11 := fun_mk (st := s_longer) l11 c11 k11
  have b11 := F11.binds (ps := p_longer) fun _ _ _ _ _ _ us hl => match us, hl with | [_, _, _, _], _ => rfl
  have F12 := fun_mk (st := s_is_bad) l12 c12 k12
  have b12 := F12.binds (ps := p_is_bad) fun _ _ _ _ _ _ us hl => match us, hl with | [_], _ => rfl
  have F13 := fun_mk (st := s_layers_of) l13 c13 k13
  have b13 := F13.binds (ps := p_layers_of) fun _ _ _ _ _ _ us hl => match us, hl with | [_, _], _ => rfl
  have F14 := fun_mk (st := s_can_be_bad) l14 c14 k14
  have b14 := F14.binds (ps := p_can_be_bad) fun _ _ _ _ _ _ us hl => match us, hl with | [_, _, _, _], _ => rfl
  have F15 := fun_mk (st := s_first_fail) l15 c15 k15
  have b15 := F15.binds (ps := p_first_fail) fun _ _ _ _ _ _ us hl => match us, hl with | [_, _], _ => rfl
  have F16 := fun_mk (st := s_sum_fails) l16 c16 k16
  have b16 := F16.binds (ps := p_sum_fails) fun _ _ _ _ _ _ us hl => match us, hl with | [_, _], _ => rfl
  have F17 := fun_mk (st := s_law_taken) l17 c17 k17
  have b17 := F17.binds (ps := p_law_taken) fun _ _ _ _ _ _ us hl => match us, hl with | [_, _], _ => rfl
  have F18 := fun_mk (st := s_law_power) l18 c18 k18
  have b18 := F18.binds (ps := p_law_power) fun _ _ _ _ _ _ us hl => match us, hl with | [_, _], _ => rfl
  have F19 := fun_mk (st := s_law_sum) l19 c19 k19
  have b19 := F19.binds (ps := p_law_sum) fun _ _ _ _ _ _ us hl => match us, hl with | [_, _], _ => rfl
  have F20 := fun_mk (st := s_law_weight) l20 c20 k20
  have b20 := F20.binds (ps := p_law_weight) fun _ _ _ _ _ _ us hl => match us, hl with | [_, _], _ => rfl
  have F21 := fun_mk (st := s_law) l21 c21 k21
  have b21 := F21.binds (ps := p_law) fun _ _ _ _ _ _ us hl => match us, hl with | [_], _ => rfl
  have T : Txt K mg ⟨f0, _, f1, _, f2, _, f3, _, f4, _, f5, _, f6, _, f7, _, f8, _, f9, _, f10, _, f11, _, f12, _, f13, _, f14, _, f15, _, f16, _, f17, _, f18, _, f19, _, f20, _, fa, _, CSum⟩ :=
    { F_is_from := F0,
      b_is_from := b0,
      g_is_from := PySem.W.mg_of X G a0,
      F_need_base := F1,
      b_need_base := b1,
      g_need_base := PySem.W.mg_of X G a1,
      F_need_divisor := F2,
      b_need_divisor := b2,
      g_need_divisor := PySem.W.mg_of X G a2,
      F_common := F3,
      b_common := b3,
      g_common := PySem.W.mg_of X G a3,
      F_power := F4,
      b_power := b4,
      g_power := PySem.W.mg_of X G a4,
      F_need_weights := F5,
      b_need_weights := b5,
      g_need_weights := PySem.W.mg_of X G a5,
      F_Sum_init := F6,
      b_Sum_init := b6,
      F_need_sum := F7,
      b_need_sum := b7,
      g_need_sum := PySem.W.mg_of X G a7,
      F_weight_at := F8,
      b_weight_at := b8,
      g_weight_at := PySem.W.mg_of X G a8,
      F_powers_of := F9,
      b_powers_of := b9,
      g_powers_of := PySem.W.mg_of X G a9,
      F_look_of := F10,
      b_look_of := b10,
      g_look_of := PySem.W.mg_of X G a10,
      F_longer := F11,
      b_longer := b11,
      g_longer := PySem.W.mg_of X G a11,
      F_is_bad := F12,
      b_is_bad := b12,
      g_is_bad := PySem.W.mg_of X G a12,
      F_layers_of := F13,
      b_layers_of := b13,
      g_layers_of := PySem.W.mg_of X G a13,
      F_can_be_bad := F14,
      b_can_be_bad := b14,
      g_can_be_bad := PySem.W.mg_of X G a14,
      F_first_fail := F15,
      b_first_fail := b15,
      g_first_fail := PySem.W.mg_of X G a15,
      F_sum_fails := F16,
      b_sum_fails := b16,
      g_sum_fails := PySem.W.mg_of X G a16,
      F_law_taken := F17,
      b_law_taken := b17,
      g_law_taken := PySem.W.mg_of X G a17,
      F_law_power := F18,
      b_law_power := b18,
      g_law_power := PySem.W.mg_of X G a18,
      F_law_sum := F19,
      b_law_sum := b19,
      g_law_sum := PySem.W.mg_of X G a19,
      F_law_weight := F20,
      b_law_weight := b20,
      g_law_weight := PySem.W.mg_of X G a20,
      F_law := F21,
      b_law := b21,
      g_law := PySem.W.mg_of X G a21,
      g_Sum := PySem.W.mg_of X G aCSum,
      cl_Sum := ⟨pgSum, hdSum, poSum, saSum⟩,
      is_Sum := ⟨⟨pgSum, hdSum, poSum, saSum⟩, icSum, snA, tkA, mcSum, if_pos (beq_self_eq_true _)⟩,
      M_Sum := ⟨mkSum, a6, i6, kcSum⟩,
      nf_Sum_basis := nfSum_basis,
      nf_Sum_many := nfSum_many,
      nf_Sum_begun := nfSum_begun,
      nf_Sum_again := nfSum_again,
      nf_Sum_block := nfSum_block,
      v_LEAST_BASE := ⟨_, PySem.W.mg_of X G v_LEAST_BASE⟩,
      v_MOST_BASE := ⟨_, PySem.W.mg_of X G v_MOST_BASE⟩,
      v_MOST_TAKE := ⟨_, PySem.W.mg_of X G v_MOST_TAKE⟩,
      v_MOST_WEIGHT := ⟨_, PySem.W.mg_of X G v_MOST_WEIGHT⟩,
      v_MOST_WEIGHTS := ⟨_, PySem.W.mg_of X G v_MOST_WEIGHTS⟩,
      v_MOST_SUM_DIVISOR := ⟨_, PySem.W.mg_of X G v_MOST_SUM_DIVISOR⟩,
      n_isinstance := PySem.W.mg_none_of X G z_isinstance,
      n_int := PySem.W.mg_none_of X G z_int,
      n_bool := PySem.W.mg_none_of X G z_bool,
      n_abs := PySem.W.mg_none_of X G z_abs,
      n_range := PySem.W.mg_none_of X G z_range,
      n_enumerate := PySem.W.mg_none_of X G z_enumerate,
      n_tuple := PySem.W.mg_none_of X G z_tuple,
      n_len := PySem.W.mg_none_of X G z_len,
      n_max := PySem.W.mg_none_of X G z_max,
      n_min := PySem.W.mg_none_of X G z_min,
      n_any := PySem.W.mg_none_of X G z_any,
      n_dict := PySem.W.mg_none_of X G z_dict }
  exact ⟨_, fun s v => .of_eq rfl, fun base _ _ => ok_law T⟩
theorem walk {l : PySem.W.OpenLaw} {q : Program} {loose : List Str} {XP : (Str → Option Value) → Heap → Prop} {YP : World → Heap → Prop} {d : DefRec} {K : Params → Frag} (hn : l.most = some 63) (hdf : d.params.defaults = [])
    (hY : ∀ (w : World) (h : Heap), YP w h → (K w.params).In h)
    (F : ∀ (w : World) (mg : Str → Option Value) (fa : Addr) (h : Heap), (K w.params).In h → h.Ns mainGlobals mg → mg d.name = some (.ref fa) →
      ∃ fd : FuncData, (∀ (s : Shared) (u : Value), BindsTo s fd ⟨[u], []⟩ [("_law_script", u)]) ∧ ∀ base : Heap, (K w.params).In base → base.Ns mainGlobals mg → FnOk l.prog w (K w.params) mg base CX0 6 fa fd ["_law_script"] (sp_law (K w.params))) :
    PySem.W.WalkO q loose XP YP l.row.toRowW d [] (fun f vs => PySem.call f vs) :=
  L2.walk_of (n := 63) (k := 6) (x := "_law_script") (CX := fun _ => CX0) (sp := fun w => sp_law (K w.params)) hn (by decide) hdf ⟨rfl, by decide, by decide⟩ hY F (fun _ _ a ns hl _ hS => ⟨a, ns, rfl, hS, hl, fun _ => rfl⟩) fun _ _ _ _ _ z => z
end Toy

open PySem PySem.W PyProof.Rows
set_option maxRecDepth 100000 in
set_option maxHeartbeats 0 in
theorem PySem.Challenge.cw_resttricks_k20_whole_multiples_of_sums_holds : PySem.Challenge.rw_resttricks_k20_whole_multiples_of_sums.Holds := by
  w_on; o_law; k_head; (case hw => w_witness2)
  k_fill
  refine Toy.walk (l := PySem.Challenge.rw_resttricks_k20_whole_multiples_of_sums) rfl rfl (fun w h Y => PySem.W.kIn_of Y) ?F
  case F =>
    intro w mg fa h KX G hmg
    refine' Toy.all_mk KX G hmg ?a0 ?l0 ?c0 ?k0 ?a1 ?l1 ?c1 ?k1 ?a2 ?l2 ?c2 ?k2 ?a3 ?l3 ?c3 ?k3 ?a4 ?l4 ?c4 ?k4 ?a5 ?l5 ?c5 ?k5 ?a6 ?i6 ?l6 ?c6 ?k6 ?a7 ?l7 ?c7 ?k7 ?a8 ?l8 ?c8 ?k8 ?a9 ?l9 ?c9 ?k9 ?a10 ?l10 ?c10 ?k10 ?a11 ?l11 ?c11 ?k11 ?a12 ?l12 ?c12 ?k12 ?a13 ?l13 ?c13 ?k13 ?a14 ?l14 ?c14 ?k14 ?a15 ?l15 ?c15 ?k15 ?a16 ?l16 ?c16 ?k16 ?a17 ?l17 ?c17 ?k17 ?a18 ?l18 ?c18 ?k18 ?a19 ?l19 ?c19 ?k19 ?a20 ?l20 ?c20 ?k20 ?a21 ?l21 ?c21 ?k21 ?aCSum ?pgSum ?hdSum ?poSum ?saSum ?mkSum ?kcSum ?icSum ?mcSum ?nfSum_basis ?nfSum_many ?nfSum_begun ?nfSum_again ?nfSum_block ?snA ?tkA ?v_LEAST_BASE ?v_MOST_BASE ?v_MOST_TAKE ?v_MOST_WEIGHT ?v_MOST_WEIGHTS ?v_MOST_SUM_DIVISOR ?z_isinstance ?z_int ?z_bool ?z_abs ?z_range ?z_enumerate ?z_tuple ?z_len ?z_max ?z_min ?z_any ?z_dict
    (case aCSum => k_is)
    (case a0 => k_is)
    (case l0 => k_is)
    (case c0 => k_is)
    (case k0 => k_is)
    (case a1 => k_is)
    (case l1 => k_is)
    (case c1 => k_is)
    (case k1 => k_is)
    (case a2 => k_is)
    (case l2 => k_is)
    (case c2 => k_is)
    (case k2 => k_is)
    (case a3 => k_is)
    (case l3 => k_is)
    (case c3 => k_is)
    (case k3 => k_is)
    (case a4 => k_is)
    (case l4 => k_is)
    (case c4 => k_is)
    (case k4 => k_is)
    (case a5 => k_is)
    (case l5 => k_is)
    (case c5 => k_is)
    (case k5 => k_is)
    (case a6 => k_is)
    (case i6 => k_is)
    (case l6 => k_is)
    (case c6 => k_is)
    (case k6 => k_is)
    (case a7 => k_is)
    (case l7 => k_is)
    (case c7 => k_is)
    (case k7 => k_is)
    (case a8 => k_is)
    (case l8 => k_is)
    (case c8 => k_is)
    (case k8 => k_is)
    (case a9 => k_is)
    (case l9 => k_is)
    (case c9 => k_is)
    (case k9 => k_is)
    (case a10 => k_is)
    (case l10 => k_is)
    (case c10 => k_is)
    (case k10 => k_is)
    (case a11 => k_is)
    (case l11 => k_is)
    (case c11 => k_is)
    (case k11 => k_is)
    (case a12 => k_is)
    (case l12 => k_is)
    (case c12 => k_is)
    (case k12 => k_is)
    (case a13 => k_is)
    (case l13 => k_is)
    (case c13 => k_is)
    (case k13 => k_is)
    (case a14 => k_is)
    (case l14 => k_is)
    (case c14 => k_is)
    (case k14 => k_is)
    (case a15 => k_is)
    (case l15 => k_is)
    (case c15 => k_is)
    (case k15 => k_is)
    (case a16 => k_is)
    (case l16 => k_is)
    (case c16 => k_is)
    (case k16 => k_is)
    (case a17 => k_is)
    (case l17 => k_is)
    (case c17 => k_is)
    (case k17 => k_is)
    (case a18 => k_is)
    (case l18 => k_is)
    (case c18 => k_is)
    (case k18 => k_is)
    (case a19 => k_is)
    (case l19 => k_is)
    (case c19 => k_is)
    (case k19 => k_is)
    (case a20 => k_is)
    (case l20 => k_is)
    (case c20 => k_is)
    (case k20 => k_is)
    (case a21 => k_is)
    (case l21 => k_is)
    (case c21 => k_is)
    (case k21 => k_is)
    (case pgSum => k_is)
    (case hdSum => k_is)
    (case poSum => k_is)
    (case saSum => k_is)
    (case mkSum => k_is)
    (case kcSum => k_is)
    (case icSum => k_is)
    (case mcSum => k_is)
    (case nfSum_basis => k_is)
    (case nfSum_many => k_is)
    (case nfSum_begun => k_is)
    (case nfSum_again => k_is)
    (case nfSum_block => k_is)
    (case snA => k_is)
    (case tkA => k_is)
    (case v_LEAST_BASE => k_is)
    (case v_MOST_BASE => k_is)
    (case v_MOST_TAKE => k_is)
    (case v_MOST_WEIGHT => k_is)
    (case v_MOST_WEIGHTS => k_is)
    (case v_MOST_SUM_DIVISOR => k_is)
    (case z_isinstance => k_is)
    (case z_int => k_is)
    (case z_bool => k_is)
    (case z_abs => k_is)
    (case z_range => k_is)
    (case z_enumerate => k_is)
    (case z_tuple => k_is)
    (case z_len => k_is)
    (case z_max => k_is)
    (case z_min => k_is)
    (case z_any => k_is)
    (case z_dict => k_is)
