import PyProof.Rows.All
import Wide.All
import OpenK.AllK
import Wide.FinOn
import HandS.ForMost
import HandS.IsInst
import HandS.Wide
import HandS.Steps
import HandS.Style
import HandS.TupAny
import HandS.Codes
import HandS.SortInts
import HandS.TryOnly
import HandS.Walk
import KE.GoesEnum
import KE.SortData
import HandS.Deep
import KE.KDictSum
import PySem.Challenge.RW_resttricks_k13_whole_rings
set_option Elab.async false
set_option linter.all false
set_option maxRecDepth 100000
set_option maxHeartbeats 4000000
/-! ## the layer: what is owned, step by step -/
namespace R
open PySem PySem.Spec PyProof.Rows L2
open PySem.W (Frag)

def del1 (H : Hp) (a : Addr) : Hp := fun b => if b = a then none else H b
/-- B: what stays; Lw: what this frame may change, as it stands -/
structure Own (B : Hp) (Lw : List (Addr × HO)) (H : Hp) : Prop where
  st : ∀ a o, B a = some o → H a = some o
  ow : ∀ p ∈ Lw, H p.1 = some p.2
  no : ∀ p ∈ Lw, B p.1 = none
  nd : (Lw.map (·.1)).Nodup
theorem Own.refl (H : Hp) : Own H [] H := ⟨fun _ _ h => h, fun _ h => by simp at h, fun _ h => by simp at h, by simp⟩
theorem Own.refl1 {H : Hp} {a : Addr} {o : HO} (h : H a = some o) : Own (del1 H a) [(a, o)] H := by
  refine ⟨fun b u e => ?_, fun p hp => ?_, fun p hp => ?_, by simp⟩
  · unfold del1 at e
    split at e
    · cases e
    · exact e
  · have e : p = (a, o) := by simpa using hp
    rw [e]; exact h
  · have e : p = (a, o) := by simpa using hp
    rw [e]; unfold del1; rw [if_pos rfl]
section
variable {B H H' : Hp} {Lw : List (Addr × HO)} {a b p : Addr} {o u : HO} {K : Frag} {xs : List V}
theorem Own.get (O : Own B Lw H) (i : Nat) (h : Lw[i]? = some (a, o)) : H a = some o := O.ow (a, o) (List.mem_of_getElem? h)
theorem Own.gone (O : Own B Lw H) (i : Nat) (h : Lw[i]? = some (a, o)) : B a = none := O.no (a, o) (List.mem_of_getElem? h)
theorem Own.seq (O : Own B Lw H) (h : SqL K B a xs) : SqL K H a xs := by
  rcases h with (h | ⟨q, h⟩) | h
  · exact .inl (.inl (O.st _ _ h))
  · exact .inl (.inr ⟨q, O.st _ _ h⟩)
  · exact .inr h
theorem Own.tup (O : Own B Lw H) (h : SqT K B a xs) : SqT K H a xs := by
  rcases h with (h | ⟨q, h⟩) | h
  · exact .inl (.inl (O.st _ _ h))
  · exact .inl (.inr ⟨q, O.st _ _ h⟩)
  · exact .inr h
theorem Own.sq (O : Own B Lw H) (i : Nat) (h : Lw[i]? = some (a, .lst xs)) : SqL K H a xs := SqL.of (O.get i h)
theorem Own.tq (O : Own B Lw H) (i : Nat) (h : Lw[i]? = some (a, .tup xs)) : SqT K H a xs := SqT.of (O.get i h)
theorem Own.free (O : Own B Lw H) (h : H p = none) : B p = none := by
  cases q : B p with
  | none => rfl
  | some v => rw [O.st _ _ q] at h; cases h
theorem Own.out (O : Own B Lw H) (h : H p = none) : ∀ q ∈ Lw, q.1 ≠ p := fun q hq z => by
  have e := O.ow q hq
  rw [z, h] at e; cases e
/-- a new object -/
theorem Own.new (O : Own B Lw H) (h : H p = none) : Own B ((p, o) :: Lw) (upd H p o) := by
  refine ⟨fun c v e => ?_, fun q hq => ?_, fun q hq => ?_, ?_⟩
  · rw [upd_ne (ne_of_none (O.st _ _ e) h)]; exact O.st _ _ e
  · rcases List.mem_cons.mp hq with rfl | hq
    · exact upd_same
    · show upd H p o q.1 = _
      rw [upd_ne (O.out h q hq)]; exact O.ow q hq
  · rcases List.mem_cons.mp hq with rfl | hq
    · exact O.free h
    · exact O.no q hq
  · rw [List.map_cons, List.nodup_cons]
    refine ⟨fun z => ?_, O.nd⟩
    obtain ⟨q, hq, e⟩ := List.mem_map.mp z
    exact O.out h q hq e
theorem set_map1 : ∀ {Lw : List (Addr × HO)} {i : Nat} {a : Addr} {o o' : HO}, Lw[i]? = some (a, o) → (Lw.set i (a, o')).map (·.1) = Lw.map (·.1)
  | [], _, _, _, _, h => by simp at h
  | x :: r, 0, a, o, o', h => by
    have e : x = (a, o) := by simpa using h
    rw [e]; rfl
  | x :: r, i + 1, a, o, o', h => by
    have ih := set_map1 (Lw := r) (i := i) (o' := o') (by simpa using h)
    show x.1 :: (r.set i (a, o')).map (·.1) = x.1 :: r.map (·.1)
    rw [ih]
theorem mem_set1 : ∀ {Lw : List (Addr × HO)} {i : Nat} {a : Addr} {o o' : HO} {q : Addr × HO}, (Lw.map (·.1)).Nodup → Lw[i]? = some (a, o) → q ∈ Lw.set i (a, o') → q = (a, o') ∨ (q ∈ Lw ∧ q.1 ≠ a)
  | [], _, _, _, _, _, _, h, _ => by simp at h
  | x :: r, 0, a, o, o', q, nd, h, hq => by
    have e : x = (a, o) := by simpa using h
    subst e
    rw [List.map_cons, List.nodup_cons] at nd
    rcases List.mem_cons.mp hq with rfl | hq
    · exact .inl rfl
    · exact .inr ⟨List.mem_cons_of_mem _ hq, fun z => nd.1 (List.mem_map.mpr ⟨q, hq, z⟩)⟩
  | x :: r, i + 1, a, o, o', q, nd, h, hq => by
    rw [List.map_cons, List.nodup_cons] at nd
    have h' : r[i]? = some (a, o) := by simpa using h
    rcases List.mem_cons.mp (show q ∈ x :: r.set i (a, o') from hq) with rfl | hq
    · refine .inr ⟨List.mem_cons_self, fun z => nd.1 (List.mem_map.mpr ⟨(a, o), List.mem_of_getElem? h', z.symm⟩)⟩
    · rcases mem_set1 nd.2 h' hq with z | ⟨z1, z2⟩
      · exact .inl z
      · exact .inr ⟨List.mem_cons_of_mem _ z1, z2⟩
/-- what is owned is changed by someone who keeps all else -/
theorem Own.but (O : Own B Lw H) (i : Nat) (h : Lw[i]? = some (a, o)) (k : ∀ b v, b ≠ a → H b = some v → H' b = some v) (ha : H' a = some u) : Own B (Lw.set i (a, u)) H' := by
  have hB := O.gone i h
  refine ⟨fun c v e => k c v (fun z => ?_) (O.st _ _ e), fun q hq => ?_, fun q hq => ?_, ?_⟩
  · rw [z, hB] at e; cases e
  · rcases mem_set1 O.nd h hq with rfl | ⟨h1, h2⟩
    · exact ha
    · exact k _ _ h2 (O.ow q h1)
  · rcases mem_set1 O.nd h hq with rfl | ⟨h1, h2⟩
    · exact hB
    · exact O.no q h1
  · rw [set_map1 h]; exact O.nd
theorem Own.put (O : Own B Lw H) (i : Nat) (h : Lw[i]? = some (a, o)) : Own B (Lw.set i (a, u)) (upd H a u) :=
  O.but i h (fun b v hb e => by rw [upd_ne hb]; exact e) upd_same
/-- more stands now -/
theorem Own.same (O : Own B Lw H) (s : Same H H') : Own B Lw H' := ⟨fun c v e => s _ _ (O.st _ _ e), fun q hq => s _ _ (O.ow q hq), O.no, O.nd⟩
theorem Own.tail {x : Addr × HO} (O : Own B (x :: Lw) H) : Own B Lw H := ⟨O.st, fun q hq => O.ow q (List.mem_cons_of_mem _ hq), fun q hq => O.no q (List.mem_cons_of_mem _ hq), (List.nodup_cons.mp (by simpa using O.nd)).2⟩
theorem Own.tail2 {x y : Addr × HO} (O : Own B (y :: x :: Lw) H) : Own B (y :: Lw) H := by
  have hn := O.nd
  simp only [List.map_cons, List.nodup_cons, List.mem_cons, not_or] at hn
  refine ⟨O.st, fun q hq => O.ow q ?_, fun q hq => O.no q ?_, ?_⟩
  · rcases List.mem_cons.mp hq with rfl | hq
    · exact List.mem_cons_self
    · exact List.mem_cons_of_mem _ (List.mem_cons_of_mem _ hq)
  · rcases List.mem_cons.mp hq with rfl | hq
    · exact List.mem_cons_self
    · exact List.mem_cons_of_mem _ (List.mem_cons_of_mem _ hq)
  · simp only [List.map_cons, List.nodup_cons]
    exact ⟨hn.1.2, hn.2.2⟩
theorem Own.toSame (O : Own H Lw H') : Same H H' := O.st
/-- at the end: all but a is as it was -/
theorem Own.toBut (O : Own (del1 H a) Lw H') : ∀ b v, b ≠ a → H b = some v → H' b = some v := fun b v hb e => O.st b v (by unfold del1; rw [if_neg hb]; exact e)
theorem del1_seq {o : HO} (h : SqL K H b xs) (ha : H a = some o) (ho : ∀ ys, o ≠ .lst ys ∨ b ≠ a) (hf : ∀ q w, o ≠ .frz q w) (hb : b ≠ a) : SqL K (del1 H a) b xs := by
  rcases h with (h | ⟨q, h⟩) | h
  · exact .inl (.inl (by unfold del1; rw [if_neg hb]; exact h))
  · exact .inl (.inr ⟨q, by unfold del1; rw [if_neg hb]; exact h⟩)
  · exact .inr h
theorem del1_ne {H : Hp} {a b : Addr} (h : b ≠ a) : del1 H a b = H b := by unfold del1; rw [if_neg h]
end
end R
namespace R
open PySem L2
theorem Own.swap {B H : Hp} {Lw : List (Addr × HO)} {x y : Addr × HO} (O : Own B (x :: y :: Lw) H) : Own B (y :: x :: Lw) H := by
  refine ⟨O.st, fun q hq => O.ow q ?_, fun q hq => O.no q ?_, ?_⟩
  · simp only [List.mem_cons] at hq ⊢
    rcases hq with z | z | z
    · exact .inr (.inl z)
    · exact .inl z
    · exact .inr (.inr z)
  · simp only [List.mem_cons] at hq ⊢
    rcases hq with z | z | z
    · exact .inr (.inl z)
    · exact .inl z
    · exact .inr (.inr z)
  · have h := O.nd
    simp only [List.map_cons, List.nodup_cons, List.mem_cons, not_or] at h ⊢
    exact ⟨⟨fun z => h.1.1 z.symm, h.2.1⟩, h.1.2, h.2.2⟩
end R
namespace R
open PySem L2
open PySem.W (Frag)
section
variable {B H H' : Hp} {Lw : List (Addr × HO)} {p : Addr} {o : HO} {K : Frag}
/-- what is owned is let stand for good -/
theorem Own.fix (O : Own B ((p, o) :: Lw) H) : Own (upd B p o) Lw H := by
  have hn := O.nd
  simp only [List.map_cons, List.nodup_cons] at hn
  refine ⟨fun a v e => ?_, fun q hq => O.ow q (List.mem_cons_of_mem _ hq), fun q hq => ?_, hn.2⟩
  · by_cases h : a = p
    · subst h
      rw [upd_same] at e
      rw [← e]
      exact O.ow (a, o) List.mem_cons_self
    · rw [upd_ne h] at e; exact O.st _ _ e
  · have ne : q.1 ≠ p := fun z => hn.1 (List.mem_map.mpr ⟨q, hq, z⟩)
    rw [upd_ne ne]; exact O.no q (List.mem_cons_of_mem _ hq)
theorem Own.fixS (O : Own B ((p, o) :: Lw) H) : Same B (upd B p o) := fun b v e => by
  have h : B p = none := O.no (p, o) List.mem_cons_self
  rw [upd_ne (ne_of_none e h)]; exact e
theorem Own.sub {B' : Hp} (O : Own B' Lw H) (s : Same B B') : Own B Lw H := ⟨fun a v e => O.st _ _ (s _ _ e), O.ow, fun q hq => s.free (O.no q hq), O.nd⟩
end
mutual
theorem dp_same {K : Frag} {H H' : Hp} (s : Same H H') : ∀ (d : PyData) (v : V), Dp K H v d → Dp K H' v d
  | .none, _, h => by cases h; exact .non
  | .bool b, _, h => by cases h; exact .bl b
  | .int i, _, h => by cases h; exact .int i
  | .str x, _, h => by cases h; exact .str x
  | .list ds, _, h => by
    cases h with
    | lst h1 h2 => exact .lst (s.seq h1) (dpAll_same s ds _ h2)
  | .tuple ds, _, h => by
    cases h with
    | tup h1 h2 =>
      refine .tup ?_ (dpAll_same s ds _ h2)
      rcases h1 with (h | ⟨q, h⟩) | h
      · exact .inl (.inl (s _ _ h))
      · exact .inl (.inr ⟨q, s _ _ h⟩)
      · exact .inr h
  | .dict _, _, h => by cases h
theorem dpAll_same {K : Frag} {H H' : Hp} (s : Same H H') : ∀ (ds : List PyData) (vs : List V), DpAll K H vs ds → DpAll K H' vs ds
  | [], _, h => by cases h; exact .nil
  | d :: ds, _, h => by
    cases h with
    | cons h1 h2 => exact .cons (dp_same s d _ h1) (dpAll_same s ds _ h2)
end
end R
namespace R
open PySem L2
theorem Own.got {B H H' : Hp} {Lw : List (Addr × HO)} {p : Addr} {o : HO} (O : Own B Lw H) (s : Same H H') (h : H p = none) (h' : H' p = some o) : Own B ((p, o) :: Lw) H' := by
  have O1 := O.same s
  refine ⟨O1.st, fun q hq => ?_, fun q hq => ?_, ?_⟩
  · rcases List.mem_cons.mp hq with rfl | hq
    · exact h'
    · exact O1.ow q hq
  · rcases List.mem_cons.mp hq with rfl | hq
    · exact O.free h
    · exact O1.no q hq
  · rw [List.map_cons, List.nodup_cons]
    refine ⟨fun z => ?_, O.nd⟩
    obtain ⟨q, hq, e⟩ := List.mem_map.mp z
    exact O.out h q hq e
end R
namespace R
open PySem L2
theorem Own.butNew {B H H' : Hp} {Lw : List (Addr × HO)} {a p : Addr} {o u v : HO} (O : Own B Lw H) (i : Nat) (h : Lw[i]? = some (a, o)) (k : ∀ b v, b ≠ a → H b = some v → H' b = some v) (ha : H' a = some u) (hp : H p = none) (hv : H' p = some v) : Own B ((p, v) :: Lw.set i (a, u)) H' := by
  have O1 := O.but i h k ha
  refine ⟨O1.st, fun q hq => ?_, fun q hq => ?_, ?_⟩
  · rcases List.mem_cons.mp hq with rfl | hq
    · exact hv
    · exact O1.ow q hq
  · rcases List.mem_cons.mp hq with rfl | hq
    · exact O.free hp
    · exact O1.no q hq
  · rw [List.map_cons, List.nodup_cons]
    refine ⟨fun z => ?_, O1.nd⟩
    rw [set_map1 h] at z
    obtain ⟨q, hq, e⟩ := List.mem_map.mp z
    exact O.out hp q hq e
/-- what is new to the owner was new ahead of its changes -/
theorem Own.was {H H0 : Hp} {Lw : List (Addr × HO)} {a p : Addr} {o : HO} (O : Own (del1 H0 a) Lw H) (ha : H0 a = some o) (hl : ∃ (i : Nat) (u : HO), Lw[i]? = some (a, u)) (hp : H p = none) : H0 p = none := by
  cases e : H0 p with
  | none => rfl
  | some w =>
    by_cases z : p = a
    · obtain ⟨i, u, h⟩ := hl
      have q := O.get i h
      rw [← z, hp] at q
      cases q
    · have q := O.st p w (by unfold del1; rw [if_neg z]; exact e)
      rw [hp] at q
      cases q
end R
namespace R
open PySem L2
theorem Own.less {B H : Hp} {Lw Lw' : List (Addr × HO)} (O : Own B Lw H) (s : Lw'.Sublist Lw) : Own B Lw' H :=
  ⟨O.st, fun q hq => O.ow q (s.subset hq), fun q hq => O.no q (s.subset hq), O.nd.sublist (s.map _)⟩
theorem Own.drop {B H : Hp} {Lw : List (Addr × HO)} (O : Own B Lw H) (n : Nat) : Own B (Lw.drop n) H := O.less (List.drop_sublist n Lw)
end R
namespace R
open PySem L2
theorem Own.perm {B H : Hp} {Lw Lw' : List (Addr × HO)} (O : Own B Lw H) (p : Lw'.Perm Lw) : Own B Lw' H :=
  ⟨O.st, fun q hq => O.ow q (p.mem_iff.mp hq), fun q hq => O.no q (p.mem_iff.mp hq), ((p.map _).nodup_iff).mpr O.nd⟩
/-- what a call has laid anew, beside what is owned -/
theorem Own.join {B H H' : Hp} {Lw New : List (Addr × HO)} (O : Own B Lw H) (O2 : Own H New H') : Own B (New ++ Lw) H' := by
  refine ⟨fun a u e => O2.st _ _ (O.st _ _ e), fun q hq => ?_, fun q hq => ?_, ?_⟩
  · rcases List.mem_append.mp hq with hq | hq
    · exact O2.ow q hq
    · exact O2.st _ _ (O.ow q hq)
  · rcases List.mem_append.mp hq with hq | hq
    · exact O.free (O2.no q hq)
    · exact O.no q hq
  · rw [List.map_append, List.nodup_append]
    refine ⟨O2.nd, O.nd, fun a ha b hb e => ?_⟩
    obtain ⟨q, hq, rfl⟩ := List.mem_map.mp ha
    obtain ⟨r, hr, rfl⟩ := List.mem_map.mp hb
    have z := O.ow r hr
    rw [← e, O2.no q hq] at z
    cases z
/-- the first ones are let stand for good -/
theorem Own.fixTo {H : Hp} {Lw : List (Addr × HO)} : ∀ {New : List (Addr × HO)} {B : Hp}, Own B (New ++ Lw) H → ∃ B', Same B B' ∧ Own B' Lw H ∧ ∀ q ∈ New, B' q.1 = some q.2
  | [], B, O => ⟨B, Same.refl B, O, fun _ h => by simp at h⟩
  | (p, u) :: New, B, O => by
    have O1 : Own B ((p, u) :: (New ++ Lw)) H := O
    obtain ⟨B', s, O', h⟩ := Own.fixTo (O1.fix)
    refine ⟨B', O1.fixS.trans s, O', fun q hq => ?_⟩
    rcases List.mem_cons.mp hq with rfl | hq
    · exact s _ _ upd_same
    · exact h q hq
end R

namespace R
open PySem PySem.Spec PyProof.Rows L2
open PySem.W (Frag)
/-! ### rules of our own -/
theorem op_mulX {X : Cx} : OpR X (binaryOp .Mult) (rI IntMulOk fun i j => .int (i * j)) := opI fun _ _ _ _ _ _ _ hc q => mul_int q hc
theorem mx_l {i j : Int} (h1 : -(2 ^ 64) < i) (h2 : i < 2 ^ 64) : IntMulOk i j := CMul.ok (.inl ⟨h1, h2⟩)
theorem mx_r {i j : Int} (h1 : -(2 ^ 64) < j) (h2 : j < 2 ^ 64) : IntMulOk i j := CMul.ok (.inr ⟨h1, h2⟩)
theorem pe_globI {X : Cx} {x : Str} {i : Int} {pos : Pos} (hg : Gl X x) (hm : ∃ t, X.mg x = some (.int i t)) (hd : (x == ("__debug__" : Str)) = false := by decide) : PE X (.Name x pos) (tC (.int i)) := by
  obtain ⟨t, h⟩ := hm
  exact pe_glob hg h ⟨t, rfl⟩ hd
/-- len, tuple(..), list(..) of a list or tuple -/
def rLen (K : Frag) : List V → Hp → VK → Prop := fun xs H Q => ∃ p ys, xs = [.ref p] ∧ (SqL K H p ys ∨ SqT K H p ys) ∧ Q (.int ys.length) H
theorem call_lenR {X : Cx} : CallR X (.builtin "len") (rLen X.K) := call_len_seq
def rAbs : List V → Hp → VK → Prop := fun xs H Q => ∃ i, xs = [.int i] ∧ Q (.int (if i < 0 then -i else i)) H
theorem call_absR {X : Cx} : CallR X (.builtin "abs") rAbs := call_abs
def rTupOf (K : Frag) : List V → Hp → VK → Prop := fun xs H Q => ∃ p ys, xs = [.ref p] ∧ ((SqL K H p ys ∧ ∀ l, H l = none → Q (.ref l) (upd H l (.tup ys))) ∨ (SqT K H p ys ∧ Q (.ref p) H))
theorem call_tupR {X : Cx} : CallR X (.type "tuple") (rTupOf X.K) := call_tuple_of
def rLstOf (K : Frag) : List V → Hp → VK → Prop := fun xs H Q => ∃ p ys, xs = [.ref p] ∧ (SqL K H p ys ∨ SqT K H p ys) ∧ ∀ l, H l = none → Q (.ref l) (upd H l (.lst ys))
theorem call_lstR {X : Cx} : CallR X (.type "list") (rLstOf X.K) := call_list_of
/-! ### the steps -/
/-- a new list, a new tuple -/
def NewL (xs : List V) (H : Hp) (Q : VK) : Prop := xs.length ≤ sizeLine ∧ ∀ p, H p = none → Q (.ref p) (upd H p (.lst xs))
def NewT (xs : List V) (H : Hp) (Q : VK) : Prop := xs.length ≤ sizeLine ∧ ∀ p, H p = none → Q (.ref p) (upd H p (.tup xs))
section
variable {t u : TS} {D : Ends} {σ : L2.St} {H : Hp} {te ta tb tc : TE} {g : TG} {c d : TT} {Q : VK} {v x y : V} {i : Nat} {r r' : R2} {QB : Bool → Hp → Prop} {QL : List V → Hp → Prop} {K : Frag} {tr : TA} {tl th : TO}
theorem a_seq (h : t { D with nx := u D } σ H) : tSeq t u D σ H := h
theorem a_next (h : D.nx σ H) : tNext D σ H := h
theorem a_asg (h : te σ H fun x H1 => g x σ H1 D.nx) : tAsg te g D σ H := h
theorem a_gname {Qs : L2.St → Hp → Prop} (h : Qs (σ.set i (some v)) H) : gName i v σ H Qs := h
theorem a_drop (h : te σ H fun _ H1 => D.nx σ H1) : tDrop te D σ H := h
theorem a_ret (h : te σ H D.rt) : tRet te D σ H := h
theorem a_retN (h : D.rt .non H) : tRetN D σ H := h
theorem a_if (h : c σ H fun b H1 => if b = true then t D σ H1 else u D σ H1) : tIfS c t u D σ H := h
theorem a_var (e : σ[i]? = some (some v)) (h : Q v H) : tVar i σ H Q := ⟨v, e, h⟩
theorem a_c (h : Q v H) : tC v σ H Q := h
theorem a_op (h : ta σ H fun x H1 => tb σ H1 fun y H2 => r x y H2 Q) : tOp r ta tb σ H Q := h
theorem a_un {f : V → Hp → VK → Prop} (h : ta σ H fun x H1 => f x H1 Q) : tUn f ta σ H Q := h
theorem a_neg {n : Int} (h : Q (.int (-n)) H) : rU (fun i => .int (-i)) (.int n) H Q := ⟨n, rfl, h⟩
theorem a_test (h : te σ H fun x H' => ∃ k, x = .bl k ∧ QB k H') : tTest te σ H QB := h
theorem a_tB (h : te σ H fun x H' => ∃ k, x = .bl k ∧ QB k H') : tB te σ H QB := h
theorem a_bk {b : Bool} (h : QB b H) : ∃ k, V.bl b = .bl k ∧ QB k H := ⟨b, rfl, h⟩
theorem a_and (h : c σ H fun b H1 => if b = true then d σ H1 QB else QB false H1) : tAnd c d σ H QB := h
theorem a_or (h : c σ H fun b H1 => if b = true then QB true H1 else d σ H1 QB) : tOr c d σ H QB := h
theorem a_not (h : c σ H fun b H1 => QB (!b) H1) : tNot c σ H QB := h
theorem a_andV (h : ta σ H fun x H1 => ∃ b, x = .bl b ∧ if b = true then tb σ H1 Q else Q (.bl false) H1) : tAndV ta tb σ H Q := h
theorem a_orV (h : ta σ H fun x H1 => ∃ b, x = .bl b ∧ if b = true then Q (.bl true) H1 else tb σ H1 Q) : tOrV ta tb σ H Q := h
theorem a_notV (h : ta σ H fun x H1 => ∃ b, x = .bl b ∧ Q (.bl (!b)) H1) : tNotV ta σ H Q := h
theorem a_bv {b : Bool} {A : Bool → Prop} (h : A b) : ∃ k, V.bl b = .bl k ∧ A k := ⟨b, rfl, h⟩
theorem a_ifE (h : c σ H fun b H1 => if b = true then ta σ H1 Q else tb σ H1 Q) : tIf c ta tb σ H Q := h
theorem a_nil (h : QL [] H) : tNil σ H QL := h
theorem a_cons (h : te σ H fun x H1 => tr σ H1 fun xs H2 => QL (x :: xs) H2) : tCons te tr σ H QL := h
theorem a_tup (h : tr σ H fun xs H1 => NewT xs H1 Q) : tTup tr σ H Q := h
theorem a_lst (h : tr σ H fun xs H1 => NewL xs H1 Q) : tLst tr σ H Q := h
theorem a_cb {f : List V → Hp → VK → Prop} (h : tr σ H fun vs H1 => f vs H1 Q) : tCB f tr σ H Q := h
theorem a_call {sp : Sp} {dvs : List V} {E : XK} (h : tr σ H fun vs H1 => sp (vs ++ dvs) H1 Q E) : tCall sp dvs E tr σ H Q := h
theorem a_chain (h : ta σ H fun x H1 => tb σ H1 fun y H2 => r x y H2 fun z H3 => ∃ k, z = .bl k ∧ (if k = true then tc σ H3 fun w' H4 => r' y w' H4 Q else Q (.bl false) H3)) : tChain r r' ta tb tc σ H Q := h
theorem a_sl {f : V → Option Int → Option Int → Hp → VK → Prop} (h : te σ H fun x H1 => tl σ H1 fun l H2 => th σ H2 fun u H3 => f x l u H3 Q) : tSl f te tl th σ H Q := h
theorem a_npart {Qo : Option Int → Hp → Prop} (h : Qo none H) : tNoPart σ H Qo := h
theorem a_part {Qo : Option Int → Hp → Prop} (h : te σ H fun x H1 => ∃ i, x = .int i ∧ Qo (some i) H1) : tPart te σ H Qo := h
theorem a_ik {n : Int} {A : Int → Prop} (h : A n) : ∃ i, V.int n = .int i ∧ A i := ⟨n, rfl, h⟩
theorem a_gsub {to ti : TE} {ts : TSet} {Qs : L2.St → Hp → Prop} (h : to σ H fun o H1 => ti σ H1 fun i H2 => ts o i v H2 fun H3 => Qs σ H3) : gSub to ti ts v σ H Qs := h
theorem a_bm {T : String} {f : V → List V → Hp → VK → Prop} {to : TE} (h : to σ H fun x H1 => tyV K T x H1 ∧ tr σ H1 fun xs H2 => f x xs H2 Q) : tBM K T f to tr σ H Q := h
theorem a_bm0 {T : String} {f : V → List V → Hp → VK → Prop} {to : TE} (h : to σ H fun x H1 => tyV K T x H1 ∧ f x [] H1 Q) : tBM0 K T f to σ H Q := h
theorem a_par {a b : Nat} (h : tr σ H fun vs H1 => ∃ v w, vs = [v, w] ∧ D.nx ((σ.set a (some v)).set b (some w)) H1) : tPar a b tr D σ H := h
theorem a_par2 {A : V → V → Prop} (h : A x y) : ∃ v w, [x, y] = [v, w] ∧ A v w := ⟨x, y, rfl, h⟩
theorem a_for {wi : TI} (h : wi σ H fun J H1 => ∃ W : Nat → Nat → L2.St → Hp → Prop, (∃ m, W 0 m σ H1) ∧ ∀ i m σ H, W i m σ H →
  (J.stop i H ∧ D.nx σ H) ∨ (J.go i H ∧ ∃ N : L2.St → Hp → Prop, (∀ σ' H', N σ' H' → ∃ m', m' < m ∧ W (i + 1) m' σ' H') ∧ ∀ x H', J.yld i H x H' → g x σ H' fun σ2 H2 => t { D with nx := N, ct := N, bk := D.nx } σ2 H2)) : tFor wi g t D σ H := h
theorem a_rng1 {RR : It → Hp → Prop} (h : tr σ H fun vs H1 => ∃ j : Int, vs = [.int j] ∧ -(2 ^ 62) ≤ j ∧ j < 2 ^ 62 ∧ RR (Itr 0 j.toNat) H1) : iRng1 tr σ H RR := h
theorem a_rng1' {j : Int} {A : Int → Prop} (h1 : -(2 ^ 62) ≤ j) (h2 : j < 2 ^ 62) (h : A j) : ∃ k : Int, [V.int j] = [.int k] ∧ -(2 ^ 62) ≤ k ∧ k < 2 ^ 62 ∧ A k := ⟨j, rfl, h1, h2, h⟩
theorem a_rng2 {RR : It → Hp → Prop} (h : tr σ H fun vs H1 => ∃ i j : Int, vs = [.int i, .int j] ∧ (-(2 ^ 62) ≤ i ∧ i < 2 ^ 62 ∧ -(2 ^ 62) ≤ j ∧ j < 2 ^ 62) ∧ RR (Itr i (j - i).toNat) H1) : iRng2 tr σ H RR := h
theorem a_rng2' {i j : Int} {A : Int → Int → Prop} (h1 : -(2 ^ 62) ≤ i ∧ i < 2 ^ 62 ∧ -(2 ^ 62) ≤ j ∧ j < 2 ^ 62) (h : A i j) : ∃ a b : Int, [V.int i, V.int j] = [.int a, .int b] ∧ (-(2 ^ 62) ≤ a ∧ a < 2 ^ 62 ∧ -(2 ^ 62) ≤ b ∧ b < 2 ^ 62) ∧ A a b := ⟨i, j, rfl, h1, h⟩
theorem a_lc {wi : TI} {tt : TT} {vs : List Nat} (h : wi σ H fun J H1 => ∀ D, H1 D = none → ∃ W : Nat → Nat → Hp → Prop, (∃ m, W 0 m (upd H1 D (.lst []))) ∧ ∀ i m H, W i m H →
  (J.stop i H ∧ Q (.ref D) H) ∨ (J.go i H ∧ ∃ Nx : Hp → Prop, (∀ H', Nx H' → ∃ m', m' < m ∧ W (i + 1) m' H') ∧ ∀ x H', J.yld i H x H' → g x (wipe σ vs) H' fun σ2 H2 => wipe σ2 vs = wipe σ vs ∧ tt σ2 H2 fun b H3 =>
    if b = true then te σ2 H3 fun y H4 => ∃ acc, H4 D = some (.lst acc) ∧ acc.length < sizeLine ∧ Nx (upd H4 D (.lst (acc ++ [y]))) else Nx H3)) : tLc wi g tt te vs σ H Q := h
theorem a_gtup {n : Nat} {gs : TGs} {p : Addr} {xs : List V} {Qs : L2.St → Hp → Prop} (hs : SqT K H p xs) (hl : xs.length = n) (h : gs xs σ H Qs) : gTup K n gs (.ref p) σ H Qs := ⟨p, xs, rfl, hs, hl, h⟩
theorem a_gcons {gs : TGs} {vs : List V} {Qs : L2.St → Hp → Prop} (h : g v σ H fun σ' H' => gs vs σ' H' Qs) : gCons g gs (v :: vs) σ H Qs := ⟨v, vs, rfl, h⟩
theorem a_gnil {Qs : L2.St → Hp → Prop} (h : Qs σ H) : gNil [] σ H Qs := ⟨rfl, h⟩
theorem a_yes (h : QB true H) : tYes σ H QB := h
-- by values
theorem a_I0 {f : Int → Int → V} {m n : Int} (h : Q (f m n) H) : rI0 f (.int m) (.int n) H Q := ⟨m, n, rfl, rfl, h⟩
theorem a_I {C : Int → Int → Prop} {f : Int → Int → V} {m n : Int} (hc : C m n) (h : Q (f m n) H) : rI C f (.int m) (.int n) H Q := ⟨m, n, rfl, rfl, hc, h⟩
theorem a_eqI {m n : Int} (h : Q (.bl (decide (m = n))) H) : rEq (.int m) (.int n) H Q := ⟨rfl, by
  have e : decide (V.int m = V.int n) = decide (m = n) := by rw [dec_int, Bool.beq_eq_decide_eq]
  rw [e]; exact h⟩
theorem a_neI {m n : Int} (h : Q (.bl (!decide (m = n))) H) : rNe (.int m) (.int n) H Q := ⟨rfl, by
  have e : decide (V.int m = V.int n) = decide (m = n) := by rw [dec_int, Bool.beq_eq_decide_eq]
  rw [e]; exact h⟩
theorem a_isN1 (h : Q (.bl true) H) : rIsN .non .non H Q := ⟨rfl, h⟩
theorem a_isN0 (hx : x ≠ .non) (h : Q (.bl false) H) : rIsN x .non H Q := ⟨rfl, by rw [decide_eq_false hx]; exact h⟩
theorem a_notN1 (h : Q (.bl false) H) : rNotN .non .non H Q := ⟨rfl, h⟩
theorem a_notN0 (hx : x ≠ .non) (h : Q (.bl true) H) : rNotN x .non H Q := ⟨rfl, by rw [decide_eq_false hx]; exact h⟩
theorem a_ixL {p : Addr} {xs : List V} {n : Int} (hs : SqL K H p xs) (ha : atI xs n = some v) (h : Q v H) : rIxL K (.ref p) (.int n) H Q := ⟨p, xs, n, v, rfl, rfl, hs, ha, h⟩
theorem a_ixT {p : Addr} {xs : List V} {n : Int} (hs : SqT K H p xs) (ha : atI xs n = some v) (h : Q v H) : rIxT K (.ref p) (.int n) H Q := ⟨p, xs, n, v, rfl, rfl, hs, ha, h⟩
theorem a_setL {B : Hp} {Lw : List (Addr × HO)} {p : Addr} {xs : List V} {n : Int} {j : Nat} {Qh : Hp → Prop} (O : Own B Lw H) (i : Nat) (h : Lw[i]? = some (p, .lst xs)) (hj : ixN xs.length n = some j)
    (q : ∀ H', Own B (Lw.set i (p, .lst (xs.set j v))) H' → Qh H') : rSetL (.ref p) (.int n) v H Qh := ⟨p, xs, n, j, rfl, rfl, O.get i h, hj, q _ (O.put i h)⟩
theorem a_app {B : Hp} {Lw : List (Addr × HO)} {p : Addr} {xs : List V} (O : Own B Lw H) (i : Nat) (h : Lw[i]? = some (p, .lst xs)) (hl : xs.length ≤ 1000000)
    (q : ∀ H', Own B (Lw.set i (p, .lst (xs ++ [y]))) H' → Q .non H') : rAppend (.ref p) [y] H Q := ⟨p, xs, y, rfl, rfl, O.get i h, Nat.lt_of_le_of_lt hl (by decide), q _ (O.put i h)⟩
theorem a_mkL {B : Hp} {Lw : List (Addr × HO)} {xs : List V} (O : Own B Lw H) (hl : xs.length ≤ 1000000) (q : ∀ p H', H p = none → Own B ((p, .lst xs) :: Lw) H' → Q (.ref p) H') : NewL xs H Q :=
  ⟨Nat.le_trans hl (by decide), fun p hp => q p _ hp (O.new hp)⟩
theorem a_mkT {B : Hp} {Lw : List (Addr × HO)} {xs : List V} (O : Own B Lw H) (hl : xs.length ≤ 1000000) (q : ∀ p H', H p = none → Own B ((p, .tup xs) :: Lw) H' → Q (.ref p) H') : NewT xs H Q :=
  ⟨Nat.le_trans hl (by decide), fun p hp => q p _ hp (O.new hp)⟩
theorem a_int1 {n : Int} {A : Int → Prop} {C : Prop} (h : A n) : (∃ i, [V.int n] = [V.int i] ∧ A i) ∨ C := .inl ⟨n, rfl, h⟩
theorem a_len {q : Addr} {ys : List V} (hs : SqL K H q ys ∨ SqT K H q ys) (h : Q (.int ys.length) H) : rLen K [V.ref q] H Q := ⟨q, ys, rfl, hs, h⟩
theorem a_sum {a : Addr} {ns : List Int} (hs : SqL K H a (ns.map V.int)) (h : Q (.int ns.sum) H) : rSum K [V.ref a] H Q := ⟨a, ns, rfl, hs, h⟩
theorem a_tupL {B : Hp} {Lw : List (Addr × HO)} {a : Addr} {xs : List V} (O : Own B Lw H) (hs : SqL K H a xs) (h : ∀ p H', H p = none → Own B ((p, .tup xs) :: Lw) H' → Q (.ref p) H') : rTupOf K [V.ref a] H Q := ⟨a, xs, rfl, .inl ⟨hs, fun l hl => h l _ hl (O.new hl)⟩⟩
theorem a_tupT {a : Addr} {xs : List V} (hs : SqT K H a xs) (h : Q (.ref a) H) : rTupOf K [V.ref a] H Q := ⟨a, xs, rfl, .inr ⟨hs, h⟩⟩
theorem a_lstO {B : Hp} {Lw : List (Addr × HO)} {a : Addr} {xs : List V} (O : Own B Lw H) (hs : SqL K H a xs ∨ SqT K H a xs) (h : ∀ p H', H p = none → Own B ((p, .lst xs) :: Lw) H' → Q (.ref p) H') : rLstOf K [V.ref a] H Q := ⟨a, xs, rfl, hs, fun l hl => h l _ hl (O.new hl)⟩
theorem a_pow {m n : Int} {k : Nat} (hn : n = (k : Int)) (hk : k ≤ 1000000) (hm : m.natAbs < 2 ^ 64) (h : Q (.int (m ^ k)) H) : rI CPow (fun i j => .int (i ^ j.toNat)) (.int m) (.int n) H Q := by
  subst hn
  exact ⟨m, k, rfl, rfl, ⟨by omega, by omega, hm⟩, h⟩
theorem a_abs {n : Int} (h : Q (.int (n.natAbs : Int)) H) : rAbs [V.int n] H Q := ⟨n, rfl, by
  have e : (if n < 0 then -n else n) = (n.natAbs : Int) := by split <;> omega
  rw [e]; exact h⟩
-- tests
theorem a_tt {A B : Prop} (h : A) : if true = true then A else B := by rw [if_pos rfl]; exact h
theorem a_ff {A B : Prop} (h : B) : if false = true then A else B := by rw [if_neg Bool.false_ne_true]; exact h
theorem a_nt {A B : Prop} (h : B) : if (!true) = true then A else B := a_ff h
theorem a_nf {A B : Prop} (h : A) : if (!false) = true then A else B := a_tt h
theorem a_itT {p A B : Prop} [Decidable p] (hp : p) (h : A) : if decide p = true then A else B := by rw [if_pos (decide_eq_true hp)]; exact h
theorem a_itF {p A B : Prop} [Decidable p] (hp : ¬ p) (h : B) : if decide p = true then A else B := by rw [if_neg (by rw [decide_eq_false hp]; decide)]; exact h
theorem a_it2 {p A B : Prop} [Decidable p] (h1 : p → A) (h2 : ¬ p → B) : if decide p = true then A else B := by
  by_cases hp : p
  · exact a_itT hp (h1 hp)
  · exact a_itF hp (h2 hp)
theorem a_niT {p A B : Prop} [Decidable p] (hp : p) (h : B) : if (!decide p) = true then A else B := by rw [decide_eq_true hp]; exact a_nt h
theorem a_niF {p A B : Prop} [Decidable p] (hp : ¬ p) (h : A) : if (!decide p) = true then A else B := by rw [decide_eq_false hp]; exact a_nf h
theorem a_ni2 {p A B : Prop} [Decidable p] (h1 : p → B) (h2 : ¬ p → A) : if (!decide p) = true then A else B := by
  by_cases hp : p
  · exact a_niT hp (h1 hp)
  · exact a_niF hp (h2 hp)
theorem a_itB {b : Bool} {A B : Prop} (h1 : b = true → A) (h2 : b = false → B) : if b = true then A else B := by
  cases b with
  | true => exact a_tt (h1 rfl)
  | false => exact a_ff (h2 rfl)
theorem a_niB {b : Bool} {A B : Prop} (h1 : b = true → B) (h2 : b = false → A) : if (!b) = true then A else B := by
  cases b with
  | true => exact a_nt (h1 rfl)
  | false => exact a_nf (h2 rfl)
theorem a_cT {p q A B : Prop} [Decidable p] [Decidable q] (hp : p) (hq : q) (h : A) : if (decide p && decide q) = true then A else B := by rw [decide_eq_true hp, decide_eq_true hq]; exact a_tt h
theorem a_cF {p q A B : Prop} [Decidable p] [Decidable q] (hp : ¬ (p ∧ q)) (h : B) : if (decide p && decide q) = true then A else B := by
  by_cases h1 : p
  · rw [decide_eq_true h1, decide_eq_false (fun z => hp ⟨h1, z⟩)]; exact a_ff h
  · rw [decide_eq_false h1]; exact a_ff h
theorem a_ncT {p q A B : Prop} [Decidable p] [Decidable q] (hp : p) (hq : q) (h : B) : if (!(decide p && decide q)) = true then A else B := by rw [decide_eq_true hp, decide_eq_true hq]; exact a_nt h
theorem a_isiI {i : Int} (h : Q (.bl true) H) : rIsi K [.int i, .ty "int"] H Q := ⟨_, _, .type "int", .type "int", true, rfl, .ty _, .base (.int i), kit_ty (by decide +kernel), h⟩
theorem a_isiB {i : Int} (h : Q (.bl false) H) : rIsi K [.int i, .ty "bool"] H Q := ⟨_, _, .type "int", .type "bool", false, rfl, .ty _, .base (.int i), kit_ty (by decide +kernel), h⟩
end
theorem divW {m n : Int} (h : 0 < n) (h' : n < 10 ^ 60) : CDivW m n := wide_div (b := 200) h (by
  have q : (10 : Int) ^ 60 < 2 ^ 200 := by decide
  have r : n < 2 ^ 200 := Int.lt_trans h' q
  omega) (by decide) (by decide)
theorem at0 {α : Type} {xs : List α} {n : Int} {j : Nat} {v : α} (e : n = (j : Int)) (h : xs[j]? = some v) : atI xs n = some v := by
  rw [e]; exact atI_nat h
end R
namespace R
open PySem PySem.Spec PyProof.Rows L2
theorem mx_w {i j : Int} (a b : Nat) (ha : i.natAbs < 2 ^ a) (hb : j.natAbs < 2 ^ b) (h0 : 0 < a := by decide) (h1 : 0 < b := by decide) (h : a + b ≤ 1000000 := by decide) : IntMulOk i j := (wide_mul ha hb h0 h1 h).ok
end R
namespace R
open PySem PySem.Spec PyProof.Rows L2
open PySem.W (Frag)
section
variable {K : Frag} {B H : Hp} {Lw : List (Addr × HO)} {p : Addr} {z : Int} {Q : VK}
/-- an item of a written list at a drawn place -/
theorem a_ixV {xs : List V} (O : Own B Lw H) (i : Nat) (h : Lw[i]? = some (p, .lst xs)) (h0 : 0 ≤ z) (h1 : z < xs.length) (q : ∀ v, v ∈ xs → Q v H) : rIxL K (.ref p) (.int z) H Q := by
  have e : z.toNat < xs.length := by omega
  exact a_ixL (O.sq i h) (at0 (j := z.toNat) (by omega) (List.getElem?_eq_getElem e)) (q _ (List.getElem_mem e))
theorem a_ixM {ms : List Int} (O : Own B Lw H) (i : Nat) (h : Lw[i]? = some (p, .lst (ms.map V.int))) (h0 : 0 ≤ z) (h1 : z < ms.length) (q : ∀ m, m ∈ ms → Q (.int m) H) : rIxL K (.ref p) (.int z) H Q :=
  a_ixV O i h h0 (by rw [List.length_map]; exact h1) fun v hv => by
    obtain ⟨m, hm, rfl⟩ := List.mem_map.mp hv
    exact q m hm
end
end R
namespace R
open PySem PySem.Spec PyProof.Rows L2
open PySem.W (Frag)
section
variable {K : Frag} {B H : Hp} {Lw : List (Addr × HO)} {p : Addr} {z : Int} {Q : VK}
/-- an item of a list of ints -/
theorem a_ixI {ms : List Int} (O : Own B Lw H) (i : Nat) (h : Lw[i]? = some (p, .lst (ms.map V.int))) (h0 : 0 ≤ z) (h1 : z.toNat < ms.length) (q : Q (.int (ms[z.toNat])) H) : rIxL K (.ref p) (.int z) H Q :=
  a_ixL (O.sq i h) (at0 (j := z.toNat) (by omega) (by rw [List.getElem?_map, List.getElem?_eq_getElem h1]; rfl)) q
end
end R
namespace R
open PySem PySem.Spec PyProof.Rows L2
/-- an if whose test comes out one way on all ways -/
theorem a_ifNo {c : TT} {t u : TS} {D : Ends} {σ : L2.St} {H : Hp} (hc : ∀ QB : Bool → Hp → Prop, QB false H → c σ H QB) (h : u D σ H) : tIfS c t u D σ H := hc _ (a_ff h)
theorem a_ifYes {c : TT} {t u : TS} {D : Ends} {σ : L2.St} {H : Hp} (hc : ∀ QB : Bool → Hp → Prop, QB true H → c σ H QB) (h : t D σ H) : tIfS c t u D σ H := hc _ (a_tt h)
theorem a_ifNoH {c : TT} {t u : TS} {D : Ends} {σ : L2.St} {H : Hp} (P : Hp → Prop) (hc : ∀ QB : Bool → Hp → Prop, (∀ H', P H' → QB false H') → c σ H QB) (h : ∀ H', P H' → u D σ H') : tIfS c t u D σ H := hc _ fun H' p => a_ff (h H' p)
end R
namespace R
open PySem PySem.Spec PyProof.Rows L2
theorem q_F {p : Prop} [Decidable p] {QB : Bool → Hp → Prop} {H : Hp} (hq : QB false H) (hp : ¬ p) : QB (decide p) H := by rw [decide_eq_false hp]; exact hq
theorem q_T {p : Prop} [Decidable p] {QB : Bool → Hp → Prop} {H : Hp} (hq : QB true H) (hp : p) : QB (decide p) H := by rw [decide_eq_true hp]; exact hq
theorem q_nT {p : Prop} [Decidable p] {QB : Bool → Hp → Prop} {H : Hp} (hq : QB false H) (hp : p) : QB (!decide p) H := by rw [decide_eq_true hp]; exact hq
theorem q_nF {p : Prop} [Decidable p] {QB : Bool → Hp → Prop} {H : Hp} (hq : QB true H) (hp : ¬ p) : QB (!decide p) H := by rw [decide_eq_false hp]; exact hq
end R
namespace R
open PySem PySem.Spec PyProof.Rows L2
/-- while: W by a measure -/
theorem a_while {c : TT} {tb : TS} {D : Ends} {σ : L2.St} {H : Hp} (W : Nat → L2.St → Hp → Prop) (h0 : ∃ m, W m σ H)
    (hs : ∀ m σ H, W m σ H → c σ H fun b H1 => if b = true then (∃ N : L2.St → Hp → Prop, (∀ σ' H', N σ' H' → ∃ m', m' < m ∧ W m' σ' H') ∧ tb { D with nx := N, ct := N, bk := D.nx } σ H1) else D.nx σ H1) : tWhile c tb D σ H := ⟨W, h0, hs⟩
theorem a_turn {tb : TS} {D : Ends} {σ : L2.St} {H1 : Hp} {m : Nat} {W : Nat → L2.St → Hp → Prop} (h : tb { D with nx := fun σ' H' => ∃ m', m' < m ∧ W m' σ' H', ct := fun σ' H' => ∃ m', m' < m ∧ W m' σ' H', bk := D.nx } σ H1) :
    ∃ N : L2.St → Hp → Prop, (∀ σ' H', N σ' H' → ∃ m', m' < m ∧ W m' σ' H') ∧ tb { D with nx := N, ct := N, bk := D.nx } σ H1 := ⟨_, fun _ _ h => h, h⟩
end R
namespace R
open PySem PySem.Spec PyProof.Rows L2
open PySem.W (Frag)
section
variable {K : Frag} {tr : TA} {tl : TE} {σ : L2.St} {H : Hp} {RR : It → Hp → Prop}
theorem a_enum {tr : TA} (h : tr σ H fun vs H1 => ∃ a xs, vs = [.ref a] ∧ SqL K H1 a xs ∧ RR (Ite K a) H1) : iEnum K tr σ H RR := h
theorem a_iL (h : tl σ H fun x H1 => ∃ a, x = .ref a ∧ (∃ xs, SqL K H1 a xs) ∧ RR (Itl K a) H1) : iList K tl σ H RR := h
theorem a_iT (h : tl σ H fun x H1 => ∃ a, x = .ref a ∧ (∃ xs, SqT K H1 a xs) ∧ RR (Itt K a) H1) : iTup K tl σ H RR := h
end
end R
namespace R
open PySem PySem.Spec PyProof.Rows L2
open PySem.W (Frag)
section
variable {K : Frag} {te : TE} {σ : L2.St} {H B : Hp} {Q : VK} {Lw : List (Addr × HO)} {a : Addr} {xs : List V}
def rRev (K : Frag) : V → Hp → VK → Prop := fun x H Q => ∃ a xs, x = .ref a ∧ SqL K H a xs ∧ ∀ p, H p = none → Q (.ref p) (upd H p (.lst xs.reverse))
theorem a_rev (h : te σ H fun x H1 => rRev K x H1 Q) : tRevL K te σ H Q := h
theorem a_revL (O : Own B Lw H) (hs : SqL K H a xs) (q : ∀ p H', H p = none → Own B ((p, .lst xs.reverse) :: Lw) H' → Q (.ref p) H') : rRev K (.ref a) H Q := ⟨a, xs, rfl, hs, fun p hp => q p _ hp (O.new hp)⟩
end
end R
namespace R
open PySem PySem.Spec PyProof.Rows L2
open PySem.W (Frag)
/-! ### within a comprehension: the frag named -/
theorem pe_fldK {X : Cx} {K : Frag} {e : Expr} {f : Str} {pos : Pos} {ta : TE} (he : PE X e ta) (hb : attributeBase e f X.env (eval e X.env) = eval e X.env) (hK : X.K = K := by rfl) : PE X (.Attribute e f pos) (tFld K ta f) := by
  subst hK; exact pe_fld he hb
theorem pg_tupK {X : Cx} {K : Frag} {pos : Pos} {es : List Expr} {k : Nat} {t : TGs} {n : Nat} (hc : X.calm = true) (h : PGs X es t) (hK : X.K = K := by rfl) (hn : (assignEach es X.env).length = n := by rfl) (hst : (assignEach es X.env).findIdx? (·.1) = none := by rfl) : PG X (.Tuple es k pos) (gTup K n t) := by
  subst hK; exact pg_tup hc h hn hst
end R

namespace R
/-! ## the first one of a row -/
theorem find_more {α : Type} {g : Nat → Option α} {i : Nat} (h : (List.range i).findSome? g = none) (e : g i = none) : (List.range (i + 1)).findSome? g = none := by
  rw [List.range_succ, List.findSome?_append, h]
  simp [e]
theorem find_hit {α : Type} {g : Nat → Option α} {i : Nat} {x : α} (h : (List.range i).findSome? g = none) (e : g i = some x) : ∀ n : Nat, i < n → (List.range n).findSome? g = some x := by
  intro n
  induction n with
  | zero => intro z; omega
  | succ n ih =>
    intro z
    rw [List.range_succ, List.findSome?_append]
    by_cases q : i = n
    · rw [← q, h]; simp [e]
    · rw [ih (by omega)]; rfl
theorem pow_bits {b : Int} {n m : Nat} (h0 : 0 ≤ b) (h1 : b ≤ 16) (hn : n ≤ m) : (b ^ n).natAbs < 2 ^ (4 * m + 1) := by
  rw [Int.natAbs_pow]
  have e1 : b.natAbs ≤ 16 := by omega
  have e2 : b.natAbs ^ n ≤ 16 ^ n := Nat.pow_le_pow_left e1 n
  have e3 : (16 : Nat) ^ n = 2 ^ (4 * n) := by rw [Nat.pow_mul]
  have e4 : (2 : Nat) ^ (4 * n) ≤ 2 ^ (4 * m) := Nat.pow_le_pow_right (by decide) (by omega)
  have e5 : (2 : Nat) ^ (4 * m + 1) = 2 ^ (4 * m) * 2 := Nat.pow_succ ..
  have e6 : 0 < (2 : Nat) ^ (4 * m) := Nat.pow_pos (by decide)
  omega
end R
namespace R
theorem find_ext {α : Type} {g : Nat → Option α} {n : Nat} : ∀ m : Nat, n ≤ m → (∀ i, n ≤ i → i < m → g i = none) → (List.range m).findSome? g = (List.range n).findSome? g := by
  intro m
  induction m with
  | zero => intro h _; rw [Nat.le_zero.mp h]
  | succ m ih =>
    intro h k
    by_cases e : n = m + 1
    · rw [e]
    · rw [List.range_succ, List.findSome?_append, ih (by omega) fun i h1 h2 => k i h1 (by omega)]
      simp [k m (by omega) (by omega)]
theorem find_same {α : Type} {g g' : Nat → Option α} : ∀ n : Nat, (∀ i, i < n → g i = g' i) → (List.range n).findSome? g = (List.range n).findSome? g' := by
  intro n
  induction n with
  | zero => intro _; rfl
  | succ n ih =>
    intro k
    rw [List.range_succ, List.findSome?_append, List.findSome?_append, ih fun i h => k i (by omega)]
    simp [k n (by omega)]
/-- the first hit: all of the rows ahead of i, and j of row i -/
def fst2 (h : Nat → Nat → Option Int) (B i j : Nat) : Option (Nat × Int) :=
  ((List.range i).findSome? fun p => ((List.range B).findSome? (h p)).map fun x => (p, x)).or (((List.range j).findSome? (h i)).map fun x => (i, x))
theorem fst2_yes {h : Nat → Nat → Option Int} {B i j : Nat} {x : Int} (e : h i j = some x) : fst2 h B i (j + 1) = (fst2 h B i j).or (some (i, x)) := by
  unfold fst2
  rw [List.range_succ, List.findSome?_append]
  cases (List.range i).findSome? fun p => ((List.range B).findSome? (h p)).map fun x => (p, x) <;> cases (List.range j).findSome? (h i) <;> simp [e]
theorem fst2_no {h : Nat → Nat → Option Int} {B i j : Nat} (e : h i j = none) : fst2 h B i (j + 1) = fst2 h B i j := by
  unfold fst2
  rw [List.range_succ, List.findSome?_append]
  cases (List.range j).findSome? (h i) <;> simp [e]
theorem fst2_row {h : Nat → Nat → Option Int} {B i : Nat} : fst2 h B (i + 1) 0 = fst2 h B i B := by
  unfold fst2
  rw [List.range_succ, List.findSome?_append]
  simp
theorem fst2_all {h : Nat → Nat → Option Int} {B i : Nat} : fst2 h B i 0 = (List.range i).findSome? fun p => ((List.range B).findSome? (h p)).map fun x => (p, x) := by
  unfold fst2
  simp
theorem head_snoc {α : Type} (ps : List α) (x : α) : (ps ++ [x]).head? = ps.head?.or (some x) := by
  cases ps <;> rfl
end R

namespace R
open PySem PySem.Spec PyProof.Rows L2
open PySem.W (Frag)
/-! ## lists and tuples as data -/
theorem canAll_map {α : Type} {f : α → PyData} (h : ∀ a, (f a).canLay0 = true) : ∀ l : List α, PyData.canLayAll0 (l.map f) = true
  | [] => rfl
  | a :: l => by
    show ((f a).canLay0 && PyData.canLayAll0 (l.map f)) = true
    rw [h a, canAll_map h l]; rfl
theorem depthAll_map {α : Type} {f : α → PyData} {n : Nat} (h : ∀ a, (f a).depth ≤ n) : ∀ l : List α, PyData.depthAll (l.map f) ≤ n
  | [] => Nat.zero_le _
  | a :: l => by
    have h1 := h a
    have h2 := depthAll_map h l
    show max (f a).depth (PyData.depthAll (l.map f)) ≤ n
    omega
theorem dpAll_map {α : Type} {K : Frag} {H : Hp} {g : α → V} {f : α → PyData} (h : ∀ a, Dp K H (g a) (f a)) : ∀ l : List α, DpAll K H (l.map g) (l.map f)
  | [] => .nil
  | a :: l => .cons (h a) (dpAll_map h l)
theorem shaped_of {d : PyData} (h1 : d.canLay0 = true) (h2 : d.depth ≤ 64) : SeqAt.shaped d = true := by
  unfold SeqAt.shaped
  rw [h1, decide_eq_true h2]; rfl
/-- a list of ints -/
def pyL (ns : List Int) : PyData := .list (ns.map .int)
def pyT (ns : List Int) : PyData := .tuple (ns.map .int)
theorem can_pyL (ns : List Int) : (pyL ns).canLay0 = true := canAll_map (fun _ => rfl) ns
theorem can_pyT (ns : List Int) : (pyT ns).canLay0 = true := canAll_map (fun _ => rfl) ns
theorem dep_pyL (ns : List Int) : (pyL ns).depth ≤ 1 := by
  have h := depthAll_map (f := PyData.int) (n := 0) (fun _ => Nat.le_refl 0) ns
  show PyData.depthAll (ns.map .int) + 1 ≤ 1
  omega
theorem dep_pyT (ns : List Int) : (pyT ns).depth ≤ 1 := by
  have h := depthAll_map (f := PyData.int) (n := 0) (fun _ => Nat.le_refl 0) ns
  show PyData.depthAll (ns.map .int) + 1 ≤ 1
  omega
section
variable {K : Frag} {H : Hp} {x y : V} {Q : VK} {d : PyData} {a b : Addr} {ns : List Int}
theorem dp_pyL (h : SqL K H a (ns.map V.int)) : Dp K H (.ref a) (pyL ns) := .lst h (dpAll_map (fun i => .int i) ns)
theorem dp_pyT (h : SqT K H a (ns.map V.int)) : Dp K H (.ref a) (pyT ns) := .tup h (dpAll_map (fun i => .int i) ns)
theorem a_eqD (hx : Dp K H x d) (hy : Dp K H y d) (h1 : d.canLay0 = true) (h2 : d.depth ≤ 64) (h : Q (.bl true) H) : rEqD K x y H Q :=
  ⟨d, d, hx, hy, shaped_of h1 h2, shaped_of h1 h2, by rw [SeqAt.eqv_refl d h1]; exact h⟩
theorem a_neD (hx : Dp K H x d) (hy : Dp K H y d) (h1 : d.canLay0 = true) (h2 : d.depth ≤ 64) (h : Q (.bl false) H) : rNeD K x y H Q :=
  ⟨d, d, hx, hy, shaped_of h1 h2, shaped_of h1 h2, by rw [SeqAt.eqv_refl d h1]; exact h⟩
theorem a_eqL (hx : SqL K H a (ns.map V.int)) (hy : SqL K H b (ns.map V.int)) (h : Q (.bl true) H) : rEqD K (.ref a) (.ref b) H Q := a_eqD (dp_pyL hx) (dp_pyL hy) (can_pyL ns) (Nat.le_trans (dep_pyL ns) (by decide)) h
theorem a_neL (hx : SqL K H a (ns.map V.int)) (hy : SqL K H b (ns.map V.int)) (h : Q (.bl false) H) : rNeD K (.ref a) (.ref b) H Q := a_neD (dp_pyL hx) (dp_pyL hy) (can_pyL ns) (Nat.le_trans (dep_pyL ns) (by decide)) h
theorem a_eqT (hx : SqT K H a (ns.map V.int)) (hy : SqT K H b (ns.map V.int)) (h : Q (.bl true) H) : rEqD K (.ref a) (.ref b) H Q := a_eqD (dp_pyT hx) (dp_pyT hy) (can_pyT ns) (Nat.le_trans (dep_pyT ns) (by decide)) h
theorem a_neT (hx : SqT K H a (ns.map V.int)) (hy : SqT K H b (ns.map V.int)) (h : Q (.bl false) H) : rNeD K (.ref a) (.ref b) H Q := a_neD (dp_pyT hx) (dp_pyT hy) (can_pyT ns) (Nat.le_trans (dep_pyT ns) (by decide)) h
end
end R
namespace R
open PySem PySem.Spec PyProof.Rows L2
open PySem.W (Frag)
theorem dpAll_snoc {K : Frag} {H : Hp} {v : V} {d : PyData} (h : Dp K H v d) : ∀ {vs : List V} {ds : List PyData}, DpAll K H vs ds → DpAll K H (vs ++ [v]) (ds ++ [d])
  | _, _, .nil => .cons h .nil
  | _, _, .cons h1 h2 => .cons h1 (dpAll_snoc h h2)
theorem dpAll_len {K : Frag} {H : Hp} : ∀ {vs : List V} {ds : List PyData}, DpAll K H vs ds → vs.length = ds.length
  | _, _, .nil => rfl
  | _, _, .cons _ h2 => by rw [List.length_cons, List.length_cons, dpAll_len h2]
/-- a pair of ints -/
def pyP (p : Nat × Int) : PyData := .tuple [.int p.1, .int p.2]
theorem can_pyP (p : Nat × Int) : (pyP p).canLay0 = true := rfl
theorem dep_pyP (p : Nat × Int) : (pyP p).depth ≤ 1 := Nat.le_refl 1
theorem dp_pyP {K : Frag} {H : Hp} {a : Addr} {p : Nat × Int} (h : SqT K H a [.int p.1, .int p.2]) : Dp K H (.ref a) (pyP p) := .tup h (.cons (.int _) (.cons (.int _) .nil))
/-- != by data that is not the same -/
theorem a_neD' {K : Frag} {H : Hp} {x y : V} {Q : VK} {d e : PyData} (hx : Dp K H x d) (hy : Dp K H y e) (h1 : d.canLay0 = true) (h2 : d.depth ≤ 64) (h3 : e.canLay0 = true) (h4 : e.depth ≤ 64) (n : PyData.eqv d e = false) (h : Q (.bl true) H) : rNeD K x y H Q :=
  ⟨d, e, hx, hy, shaped_of h1 h2, shaped_of h3 h4, by rw [n]; exact h⟩
theorem a_eqD' {K : Frag} {H : Hp} {x y : V} {Q : VK} {d e : PyData} (hx : Dp K H x d) (hy : Dp K H y e) (h1 : d.canLay0 = true) (h2 : d.depth ≤ 64) (h3 : e.canLay0 = true) (h4 : e.depth ≤ 64) (n : PyData.eqv d e = false) (h : Q (.bl false) H) : rEqD K x y H Q :=
  ⟨d, e, hx, hy, shaped_of h1 h2, shaped_of h3 h4, by rw [n]; exact h⟩
end R

/-! ## fields of an own instance -/
namespace R
open PySem PySem.Spec PyProof.Rows L2
open PySem.W (Frag)
def rFld (K : Frag) (f : Str) : V → Hp → VK → Prop := fun x H Q => ∃ a C dx fs v, x = .ref a ∧ H a = some (.ins C dx fs) ∧ Cls K C ∧ NoAttr K C f ∧ fs.lookup f = some v ∧ Q v H
def rSetF (K : Frag) (f : Str) : V → V → Hp → (Hp → Prop) → Prop := fun x y H P => ∃ a C dx fs, x = .ref a ∧ H a = some (.ins C dx fs) ∧ Cls K C ∧ NoAttr K C f ∧ fs.length < 1000 ∧ P (upd H a (.ins C dx (putF f y fs)))
def NewI (C : Addr) (sp : Sp) (dvs : List V) (E : XK) (vs : List V) (H : Hp) (Q : VK) : Prop := ∀ x dx, H x = none → H dx = none → dx ≠ x →
  sp (.ref x :: (vs ++ dvs)) (upd (upd H dx (.own x)) x (.ins C dx [])) (fun v H2 => v = .non ∧ Q (.ref x) H2) E
section
variable {K : Frag} {f g : Str} {ta tv : TE} {σ : L2.St} {H B : Hp} {Q : VK} {D : Ends} {Lw : List (Addr × HO)} {a C dx : Addr} {fs : List (Str × V)} {v y : V}
theorem a_fld (h : ta σ H fun x H1 => rFld K f x H1 Q) : tFld K ta f σ H Q := h
theorem a_sfld (h : tv σ H fun y H1 => ta σ H1 fun x H2 => rSetF K f x y H2 fun H3 => D.nx σ H3) : sFld K ta tv f D σ H := h
theorem a_getF (h : H a = some (.ins C dx fs)) (cl : Cls K C) (n : NoAttr K C f) (hl : fs.lookup f = some v) (q : Q v H) : rFld K f (.ref a) H Q := ⟨a, C, dx, fs, v, rfl, h, cl, n, hl, q⟩
theorem a_setF {P : Hp → Prop} (O : Own B Lw H) (i : Nat) (h : Lw[i]? = some (a, .ins C dx fs)) (cl : Cls K C) (n : NoAttr K C f) (hl : fs.length < 1000) (q : ∀ H', Own B (Lw.set i (a, .ins C dx (putF f y fs))) H' → P H') : rSetF K f (.ref a) y H P :=
  ⟨a, C, dx, fs, rfl, O.get i h, cl, n, hl, q _ (O.put i h)⟩
theorem lk_eq : ((f, v) :: fs).lookup f = some v := by
  have hb : (f == f) = true := beq_iff_eq.mpr rfl
  simp only [List.lookup, hb]
theorem lk_ne (h : ¬ f = g) : ((g, v) :: fs).lookup f = fs.lookup f := by
  have hb : (f == g) = false := beq_eq_false_iff_ne.mpr h
  simp only [List.lookup, hb]
theorem put_ne (h : ¬ g = f) : putF f y ((g, v) :: fs) = (g, v) :: putF f y fs := by
  show (if g = f then (g, y) :: fs else (g, v) :: putF f y fs) = _
  rw [if_neg h]
theorem put_eq : putF f y ((f, v) :: fs) = (f, y) :: fs := by
  show (if f = f then (f, y) :: fs else (f, v) :: putF f y fs) = _
  rw [if_pos rfl]
theorem put_nil : putF f y [] = [(f, y)] := rfl
/-- a new instance -/
theorem a_make {sp : Sp} {dvs : List V} {E : XK} {t : TA} (h : t σ H fun vs H1 => NewI C sp dvs E vs H1 Q) : tMake C sp dvs E t σ H Q := h
end
end R

namespace R
open PySem PySem.Spec PyProof.Rows L2
open PySem.W (Frag)
variable {K : Frag} {v : V} {σ : L2.St} {H : Hp}
theorem a_glst {n : Nat} {gs : TGs} {p : Addr} {xs : List V} {Qs : L2.St → Hp → Prop} (hs : SqL K H p xs) (hl : xs.length = n) (h : gs xs σ H Qs) : gLst K n gs (.ref p) σ H Qs := ⟨p, xs, rfl, hs, hl, h⟩
theorem pg_lstK {X : Cx} {pos : Pos} {es : List Expr} {k : Nat} {t : TGs} {n : Nat} (hc : X.calm = true) (h : PGs X es t) (hK : X.K = K := by rfl) (hn : (assignEach es X.env).length = n := by rfl) (hst : (assignEach es X.env).findIdx? (·.1) = none := by rfl) : PG X (.Tuple es k pos) (gLst K n t) := by
  subst hK; exact pg_lst hc h hn hst
end R

/-! ## the numbers behind, and the first that fail -/
namespace R
open PySem PySem.Spec PyProof.Rows L2
open PySem.W (Frag)
/-- what a trick makes of n -/
def beh (b k t n : Int) : Int := n / b ^ k.toNat + t * (n % b ^ k.toNat)
/-- a number or None -/
def optV : Option Int → V
  | none => .non
  | some n => .int n
/-- the least number below i with p -/
def fstB (p : Int → Bool) (i : Nat) : Option Int := (List.range i).findSome? fun (j : Nat) => if p j = true then some (j : Int) else none
theorem fstB_zero {p : Int → Bool} : fstB p 0 = none := rfl
theorem fstB_step {p : Int → Bool} {i : Nat} : fstB p (i + 1) = (fstB p i).or (if p i = true then some (i : Int) else none) := by
  unfold fstB
  rw [List.range_succ, List.findSome?_append]
  congr 1
  cases c : p (i : Int) <;> simp [List.findSome?, c]
theorem fstB_yes {p : Int → Bool} {i : Nat} (h : fstB p i = none) (e : p i = true) : fstB p (i + 1) = some (i : Int) := by rw [fstB_step, h, if_pos e]; rfl
theorem fstB_no {p : Int → Bool} {i : Nat} (h : fstB p i = none) (e : p i = false) : fstB p (i + 1) = none := by rw [fstB_step, h, e]; rfl
theorem fstB_old {p : Int → Bool} {i : Nat} {x : Int} (h : fstB p i = some x) : fstB p (i + 1) = some x := by rw [fstB_step, h]; rfl
theorem fstB_hit {p : Int → Bool} {i : Nat} (h : fstB p i = none) (e : p i = true) : ∀ n : Nat, i < n → fstB p n = some (i : Int) := find_hit h (if_pos e)
theorem fstB_none {p : Int → Bool} {n : Nat} (h : fstB p n = none) {x : Int} (h0 : 0 ≤ x) (h1 : x < n) : p x = false := by
  unfold fstB at h
  rw [List.findSome?_eq_none_iff] at h
  have q := h x.toNat (List.mem_range.mpr (by omega))
  have e : ((x.toNat : Nat) : Int) = x := by omega
  rw [e] at q
  cases c : p x with
  | false => rfl
  | true => rw [if_pos c] at q; cases q
theorem fstB_some {p : Int → Bool} {n : Nat} {x : Int} (h : fstB p n = some x) : 0 ≤ x ∧ x < n ∧ p x = true := by
  unfold fstB at h
  obtain ⟨i, hi, e⟩ := List.exists_of_findSome?_eq_some h
  have h1 := List.mem_range.mp hi
  split at e
  · rename_i c
    cases e
    exact ⟨by omega, by omega, c⟩
  · cases e
/-- no rest is kept; a multiple and none -/
def unl (b k t d n : Int) : Bool := !decide (n % d = beh b k t n % d)
def fls (b k t d n : Int) : Bool := decide (n % d = 0) != decide (beh b k t n % d = 0)
theorem beh_turn {b k t d q m : Int} (hB : 0 < b ^ k.toNat) : beh b k t (q * (d * b ^ k.toNat) + m) = q * d + beh b k t m := by
  unfold beh
  generalize b ^ k.toNat = B at *
  have e : q * (d * B) + m = m + B * (q * d) := by
    rw [← Int.mul_assoc, Int.mul_comm (q * d) B]; omega
  rw [e, Int.add_mul_ediv_left _ _ (by omega), Int.add_mul_emod_self_left]
  omega
theorem turn_of {b k t d : Int} (hB : 0 < b ^ k.toNat) (hd : 0 < d) (n : Int) : ∃ m : Int, 0 ≤ m ∧ m < d * b ^ k.toNat ∧ n % d = m % d ∧ beh b k t n % d = beh b k t m % d := by
  have h : 0 < d * b ^ k.toNat := Int.mul_pos hd hB
  refine ⟨n % (d * b ^ k.toNat), Int.emod_nonneg _ (by omega), Int.emod_lt_of_pos _ h, ?_, ?_⟩
  · rw [Int.emod_emod_of_dvd _ (Int.dvd_mul_right d _)]
  · have e := Int.mul_ediv_add_emod n (d * b ^ k.toNat)
    rw [Int.mul_comm] at e
    have q := beh_turn (t := t) (d := d) (q := n / (d * b ^ k.toNat)) (m := n % (d * b ^ k.toNat)) hB
    rw [e] at q
    rw [q, Int.add_comm, Int.add_mul_emod_self_right]
theorem unl_all {b k t d : Int} (hB : 0 < b ^ k.toNat) (hd : 0 < d) (h : fstB (unl b k t d) (d * b ^ k.toNat).toNat = none) (n : Int) : unl b k t d n = false := by
  obtain ⟨m, h0, h1, e1, e2⟩ := turn_of (t := t) hB hd n
  have q := fstB_none h h0 (by omega)
  unfold unl at *
  rw [e1, e2]; exact q
theorem fls_all {b k t d : Int} (hB : 0 < b ^ k.toNat) (hd : 0 < d) (h : fstB (fls b k t d) (d * b ^ k.toNat).toNat = none) (n : Int) : fls b k t d n = false := by
  obtain ⟨m, h0, h1, e1, e2⟩ := turn_of (t := t) hB hd n
  have q := fstB_none h h0 (by omega)
  unfold fls at *
  rw [e1, e2]; exact q
section
variable {H : Hp} {Q : VK}
theorem a_neB {p q : Bool} (h : Q (.bl (p != q)) H) : rNe (.bl p) (.bl q) H Q := ⟨rfl, by rw [dec_bl]; exact h⟩
theorem a_eqB {p q : Bool} (h : Q (.bl (p == q)) H) : rEq (.bl p) (.bl q) H Q := ⟨rfl, by rw [dec_bl]; exact h⟩
theorem a_isO1 (h : Q (.bl true) H) : rIsN (optV none) .non H Q := a_isN1 h
theorem a_isO0 {n : Int} (h : Q (.bl false) H) : rIsN (optV (some n)) .non H Q := a_isN0 (fun z => by cases z) h
theorem a_notO1 (h : Q (.bl false) H) : rNotN (optV none) .non H Q := a_notN1 h
theorem a_notO0 {n : Int} (h : Q (.bl true) H) : rNotN (optV (some n)) .non H Q := a_notN0 (fun z => by cases z) h
theorem a_neO {o : Option Int} (h : Q (.bl false) H) : rNe (optV o) (optV o) H Q := by
  refine ⟨?_, ?_⟩
  · cases o <;> rfl
  · rw [decide_eq_true rfl]; exact h
end
end R
namespace R
open PySem PySem.Spec PyProof.Rows L2
theorem a_par3 {i j l : Nat} {tr : TA} {D : Ends} {σ : L2.St} {H : Hp} (h : tr σ H fun vs H1 => ∃ u v w, vs = [u, v, w] ∧ D.nx (((σ.set i (some u)).set j (some v)).set l (some w)) H1) : tPar3 i j l tr D σ H := h
theorem a_par33 {x y z : V} {A : V → V → V → Prop} (h : A x y z) : ∃ u v w, [x, y, z] = [u, v, w] ∧ A u v w := ⟨x, y, z, rfl, h⟩
end R

namespace R
open PySem PySem.Spec PyProof.Rows L2
open PySem.W (Frag)
theorem a_rng3 {tr : TA} {σ : L2.St} {H : Hp} {RR : It → Hp → Prop} (h : tr σ H fun vs H1 => ∃ (i j c : Int) (n : Nat), vs = [.int i, .int j, .int c] ∧ RgC i j c n ∧ RR (Itc i c n) H1) : iRng3 tr σ H RR := h
theorem a_rngD {i j : Int} {A : Int → Int → Int → Nat → Prop} (h1 : -(2 ^ 62) ≤ i ∧ i < 2 ^ 62 ∧ -(2 ^ 62) ≤ j ∧ j < 2 ^ 62) (h : A i j (-1) (i - j).toNat) : ∃ (a b c : Int) (n : Nat), [V.int i, V.int j, V.int (-1)] = [.int a, .int b, .int c] ∧ RgC a b c n ∧ A a b c n :=
  ⟨i, j, -1, _, rfl, RgC.neg h1.1 h1.2.1 h1.2.2.1 h1.2.2.2, h⟩
/-! ## the greatest number that gets no less -/
def grows (b k t s : Int) : Prop := s ≤ ((beh b k t s).natAbs : Int) ∨ s ≤ ((beh b k t (-s)).natAbs : Int)
def wideN (b k t : Int) : Int := (1 + (t.natAbs : Int) * (b ^ k.toNat - 1)) * b ^ k.toNat / (b ^ k.toNat - 1) + 2
theorem less_far {B t s n : Int} (hB : 2 ≤ B) (hs : (1 + (t.natAbs : Int) * (B - 1)) * B / (B - 1) + 2 < s) (h1 : -s ≤ n) (h2 : n ≤ s) : ((n / B + t * (n % B)).natAbs : Int) < s := by
  have r0 := Int.emod_nonneg n (show B ≠ 0 by omega)
  have r1 := Int.emod_lt_of_pos n (show 0 < B by omega)
  have e := Int.mul_ediv_add_emod n B
  generalize n / B = q at *
  generalize n % B = r at *
  have a0 : 0 ≤ (t.natAbs : Int) := by omega
  have a1 : -(t.natAbs : Int) ≤ t := by omega
  have a2 : t ≤ (t.natAbs : Int) := by omega
  generalize (t.natAbs : Int) = a at *
  have u1 : t * r ≤ a * (B - 1) := Int.le_trans (Int.mul_le_mul_of_nonneg_right a2 r0) (Int.mul_le_mul_of_nonneg_left (by omega) a0)
  have u2 : -(a * (B - 1)) ≤ t * r := by
    have z1 : (-a) * r ≤ t * r := Int.mul_le_mul_of_nonneg_right a1 r0
    have z2 : a * r ≤ a * (B - 1) := Int.mul_le_mul_of_nonneg_left (by omega) a0
    rw [Int.neg_mul] at z1
    omega
  have T0 : 0 ≤ a * (B - 1) := Int.mul_nonneg a0 (by omega)
  generalize a * (B - 1) = T at *
  generalize t * r = u at *
  have w := Int.lt_mul_of_ediv_lt (a := (1 + T) * B) (b := s - 2) (c := B - 1) (by omega) (by omega)
  have e1 : (1 + T) * B = B + B * T := by rw [Int.add_mul, Int.one_mul, Int.mul_comm T]
  have e2 : (s - 2) * (B - 1) = B * s - s - 2 * B + 2 := by
    rw [Int.sub_mul, Int.mul_sub, Int.mul_sub, Int.mul_one, Int.mul_comm s B]; omega
  rw [e1, e2] at w
  have v1 : B * u ≤ B * T := Int.mul_le_mul_of_nonneg_left u1 (by omega)
  have v2 : B * (-T) ≤ B * u := Int.mul_le_mul_of_nonneg_left u2 (by omega)
  rw [Int.mul_neg] at v2
  have c1 : B * (q + u) < B * s := by rw [Int.mul_add]; omega
  have c2 : B * (-s) < B * (q + u) := by rw [Int.mul_add, Int.mul_neg]; omega
  have d1 := Int.lt_of_mul_lt_mul_left c1 (by omega)
  have d2 := Int.lt_of_mul_lt_mul_left c2 (by omega)
  omega
theorem grows_far {b k t s : Int} (hB : 2 ≤ b ^ k.toNat) (hs : wideN b k t < s) : ¬ grows b k t s := by
  unfold wideN at hs
  have s0 : 0 ≤ s := by
    have z : 0 ≤ (1 + (t.natAbs : Int) * (b ^ k.toNat - 1)) * b ^ k.toNat / (b ^ k.toNat - 1) := by
      refine Int.ediv_nonneg (Int.mul_nonneg ?_ (by omega)) (by omega)
      have := Int.mul_nonneg (show 0 ≤ (t.natAbs : Int) by omega) (show 0 ≤ b ^ k.toNat - 1 by omega)
      omega
    omega
  have h1 := less_far (t := t) (n := s) hB hs (by omega) (by omega)
  have h2 := less_far (t := t) (n := -s) hB hs (by omega) (by omega)
  unfold grows beh
  omega
structure BoundOf (b k t m : Int) : Prop where
  low : 0 ≤ m
  high : m ≤ wideN b k t
  hit : 0 < m → grows b k t m
  all : ∀ s, m < s → ¬ grows b k t s
theorem wide_small {b k t : Int} (hB : 2 ≤ b ^ k.toNat ∧ b ^ k.toNat ≤ 256) (ht : -100 ≤ t ∧ t ≤ 100) : 2 ≤ wideN b k t ∧ wideN b k t ≤ 10000000 := by
  unfold wideN
  generalize b ^ k.toNat = B at *
  have a0 : 0 ≤ (t.natAbs : Int) := by omega
  have a1 : (t.natAbs : Int) ≤ 100 := by omega
  generalize (t.natAbs : Int) = a at *
  have T0 : 0 ≤ a * (B - 1) := Int.mul_nonneg a0 (by omega)
  have T1 : a * (B - 1) ≤ 100 * 255 := Int.mul_le_mul a1 (by omega) (by omega) (by omega)
  generalize a * (B - 1) = T at *
  have W0 : 0 ≤ (1 + T) * B := Int.mul_nonneg (by omega) (by omega)
  have W1 : (1 + T) * B ≤ 25501 * 256 := Int.mul_le_mul (by omega) hB.2 (by omega) (by omega)
  generalize (1 + T) * B = W at *
  have d0 : 0 ≤ W / (B - 1) := Int.ediv_nonneg W0 (by omega)
  have d1 : W / (B - 1) ≤ W := Int.ediv_le_self _ W0
  omega
end R

namespace R
/-- the powers of B by their rests -/
def pw (B d : Nat) : Nat → Nat
  | 0 => 1 % d
  | i + 1 => pw B d i * B % d
def runP (B d : Nat) : Nat → Nat → List Nat
  | 0, x => [x]
  | n + 1, x => x :: runP B d n (x * B % d)
def okP : List Nat → Bool
  | [] => true
  | [_] => true
  | x :: y :: l => okQ x y (y :: l) && okP (y :: l)
where okQ (x y : Nat) : List Nat → Bool
  | u :: v :: l => (y != v || x == u) && okQ x y (v :: l)
  | _ => true
def allP : Bool := (List.range 31).all fun d => (List.range 31).all fun r => okP (runP r d 15 (pw r d 5))
theorem allP_ok : allP = true := by decide +kernel
end R
namespace R
theorem okQ_imp {x y : Nat} : ∀ {M : List Nat} (_ : okP.okQ x y M = true) (k : Nat) (h : k + 1 < M.length), y = M[k + 1] → x = M[k]
  | [], _, k, h, _ => by simp at h
  | [_], _, k, h, _ => by simp at h
  | u :: v :: l, o, 0, _, e => by
    unfold okP.okQ at o
    rw [Bool.and_eq_true] at o
    have q := o.1
    simp only [List.getElem_cons_succ, List.getElem_cons_zero] at e ⊢
    simpa [e] using q
  | u :: v :: l, o, k + 1, h, e => by
    unfold okP.okQ at o
    rw [Bool.and_eq_true] at o
    exact okQ_imp (M := v :: l) o.2 k (by simpa using h) e
theorem okP_imp : ∀ {L : List Nat} (_ : okP L = true) (a c : Nat) (_ : a < c) (h : c + 1 < L.length), L[a + 1] = L[c + 1] → L[a] = L[c]
  | [], _, a, c, _, h, _ => by simp at h
  | [_], _, a, c, _, h, _ => by simp at h
  | x :: y :: l, o, 0, c + 1, _, h, e => by
    unfold okP at o
    rw [Bool.and_eq_true] at o
    exact okQ_imp o.1 c (by simpa using h) e
  | x :: y :: l, o, a + 1, c + 1, hac, h, e => by
    unfold okP at o
    rw [Bool.and_eq_true] at o
    exact okP_imp (L := y :: l) o.2 a c (by omega) (by simpa using h) e
theorem pw_mod (B d : Nat) : ∀ i, pw (B % d) d i = pw B d i
  | 0 => rfl
  | i + 1 => by
    show pw (B % d) d i * (B % d) % d = pw B d i * B % d
    rw [pw_mod B d i, Nat.mul_mod, Nat.mod_mod, ← Nat.mul_mod]
theorem runP_len (B d : Nat) : ∀ n x, (runP B d n x).length = n + 1
  | 0, _ => rfl
  | n + 1, x => by show (runP B d n _).length + 1 = n + 1 + 1; rw [runP_len B d n]
theorem runP_at (B d : Nat) : ∀ (n s k : Nat) (h : k < (runP B d n (pw B d s)).length), (runP B d n (pw B d s))[k] = pw B d (s + k)
  | 0, s, k, h => by
    have e : k = 0 := by
      have : k < 1 := h
      omega
    subst e; rfl
  | n + 1, s, 0, h => rfl
  | n + 1, s, k + 1, h => by
    have q := runP_at B d n (s + 1) k (by rw [runP_len] at h ⊢; omega)
    rw [show s + (k + 1) = s + 1 + k by omega]
    exact q
/-- how many powers stand ahead of those that come again -/
theorem few {B d i j : Nat} (hd : d ≤ 30) (hd0 : 0 < d) (hi : i ≤ 20) (hj : j < i) (e : pw B d j = pw B d i) (dis : ∀ a b, a < b → b < i → pw B d a ≠ pw B d b) : j ≤ 5 := by
  by_cases c : j ≤ 5
  · exact c
  · exfalso
    have hr : B % d < d := Nat.mod_lt _ hd0
    have o := allP_ok
    unfold allP at o
    rw [List.all_eq_true] at o
    have o1 := o d (List.mem_range.mpr (by omega))
    rw [List.all_eq_true] at o1
    have o2 := o1 (B % d) (List.mem_range.mpr (by omega))
    have q := okP_imp o2 (j - 6) (i - 6) (by omega) (by rw [runP_len]; omega)
    rw [runP_at, runP_at, runP_at, runP_at, pw_mod, pw_mod, pw_mod, pw_mod] at q
    rw [show 5 + (j - 6 + 1) = j by omega, show 5 + (i - 6 + 1) = i by omega, show 5 + (j - 6) = j - 1 by omega, show 5 + (i - 6) = i - 1 by omega] at q
    exact dis (j - 1) (i - 1) (by omega) (by omega) (q e)
end R

/-! ## lists of ints: in, index, slices -/
namespace R
open PySem PySem.Spec PyProof.Rows L2
open PySem.W (Frag)
theorem flat_ints (ms : List Int) : (ms.map V.int).all flatV = true := by
  rw [List.all_map]; exact List.all_eq_true.mpr fun _ _ => rfl
theorem inV_ints (r : Int) (ms : List Int) : inV (.int r) (ms.map V.int) = decide (r ∈ ms) := by
  unfold inV
  rw [List.any_map, Bool.eq_iff_iff, List.any_eq_true, decide_eq_true_iff]
  constructor
  · rintro ⟨x, hx, e⟩
    have e : (x == r) = true := e
    rw [beq_iff_eq] at e
    rw [← e]; exact hx
  · intro h
    exact ⟨r, h, by show (r == r) = true; exact beq_self_eq_true r⟩
section
variable {K : Frag} {B H : Hp} {Lw : List (Addr × HO)} {p : Addr} {r : Int} {ms : List Int} {Q : VK}
theorem a_inI (hs : SqL K H p (ms.map V.int)) (h : Q (.bl (decide (r ∈ ms))) H) : rIn K false (.int r) (.ref p) H Q :=
  ⟨p, _, rfl, .inl hs, rfl, flat_ints ms, by show Q (.bl (inV _ _)) H; rw [inV_ints]; exact h⟩
theorem a_ninI (hs : SqL K H p (ms.map V.int)) (h : Q (.bl (!decide (r ∈ ms))) H) : rIn K true (.int r) (.ref p) H Q :=
  ⟨p, _, rfl, .inl hs, rfl, flat_ints ms, by show Q (.bl (!inV _ _)) H; rw [inV_ints]; exact h⟩
theorem a_indexI {j : Nat} (hs : SqL K H p (ms.map V.int)) (hj : ms[j]? = some r) (hm : ∀ (m : Nat) (z : Int), m < j → ms[m]? = some z → z ≠ r) (h : Q (.int (j : Nat)) H) : rIndex K (.ref p) [.int r] H Q :=
  ⟨p, _, .int r, j, .int r, rfl, rfl, hs, rfl, flat_ints ms, by rw [List.getElem?_map, hj]; rfl, by show (r == r) = true; exact beq_self_eq_true r, fun m z' hm' e => by
    rw [List.getElem?_map] at e
    cases q : ms[m]? with
    | none => rw [q] at e; cases e
    | some z =>
      rw [q] at e
      have e : V.int z = z' := Option.some.inj e
      rw [← e]
      show (z == r) = false
      exact beq_eq_false_iff_ne.mpr (hm m z hm' q), h⟩
theorem cut_to (ms : List Int) (k : Nat) : cutV (ms.map V.int) none (some (k : Int)) = (ms.take k).map V.int := by
  unfold cutV
  rw [HT.sIx_none, HT.sIx_nat, List.drop_zero, Nat.sub_zero, List.map_take]
  by_cases c : k ≤ (ms.map V.int).length
  · rw [Nat.min_eq_left c]
  · rw [Nat.min_eq_right (by omega), List.take_of_length_le (by omega), List.take_of_length_le (by omega)]
theorem cut_from (ms : List Int) (k : Nat) : cutV (ms.map V.int) (some (k : Int)) none = (ms.drop k).map V.int := by
  unfold cutV
  rw [HT.sIx_none, HT.sIx_nat, List.map_drop]
  by_cases c : k ≤ (ms.map V.int).length
  · rw [Nat.min_eq_left c]
    exact List.take_of_length_le (by rw [List.length_drop]; omega)
  · rw [Nat.min_eq_right (by omega), List.drop_of_length_le (by omega), List.drop_of_length_le (by omega), List.take_nil]
theorem a_slTo {k : Nat} {n : Int} (hn : n = (k : Int)) (O : Own B Lw H) (hs : SqL K H p (ms.map V.int)) (q : ∀ l H', H l = none → Own B ((l, .lst ((ms.take k).map V.int)) :: Lw) H' → Q (.ref l) H') : rSlL K (.ref p) none (some n) H Q := by
  subst hn
  exact ⟨p, _, rfl, hs, fun l hl => by rw [cut_to]; exact q l _ hl (O.new hl)⟩
theorem a_slFrom {k : Nat} {n : Int} (hn : n = (k : Int)) (O : Own B Lw H) (hs : SqL K H p (ms.map V.int)) (q : ∀ l H', H l = none → Own B ((l, .lst ((ms.drop k).map V.int)) :: Lw) H' → Q (.ref l) H') : rSlL K (.ref p) (some n) none H Q := by
  subst hn
  exact ⟨p, _, rfl, hs, fun l hl => by rw [cut_from]; exact q l _ hl (O.new hl)⟩
end
theorem first_in {r : Int} : ∀ {ms : List Int}, r ∈ ms → ∃ j : Nat, ms[j]? = some r ∧ ∀ (m : Nat) (z : Int), m < j → ms[m]? = some z → z ≠ r
  | [], h => by simp at h
  | x :: l, h => by
    by_cases c : x = r
    · exact ⟨0, by rw [c]; rfl, fun m z hm => by omega⟩
    · rcases List.mem_cons.mp h with z | z
      · exact absurd z.symm c
      · obtain ⟨j, h1, h2⟩ := first_in z
        refine ⟨j + 1, h1, fun m z hm e => ?_⟩
        cases m with
        | zero =>
          have e : x = z := Option.some.inj e
          rw [← e]; exact c
        | succ m => exact h2 m z (by omega) e
/-- the powers' rests as ints -/
def PL (B d i : Nat) : List Int := (List.range i).map fun j => ((pw B d j : Nat) : Int)
theorem PL_succ (B d i : Nat) : PL B d (i + 1) = PL B d i ++ [((pw B d i : Nat) : Int)] := by
  unfold PL
  rw [List.range_succ, List.map_append]; rfl
theorem PL_len (B d i : Nat) : (PL B d i).length = i := by unfold PL; rw [List.length_map, List.length_range]
theorem PL_at {B d i j : Nat} (h : j < i) : (PL B d i)[j]? = some ((pw B d j : Nat) : Int) := by
  unfold PL
  rw [List.getElem?_map, List.getElem?_range h]; rfl
theorem PL_mem {B d i : Nat} {x : Int} (h : x ∈ PL B d i) : ∃ j, j < i ∧ x = ((pw B d j : Nat) : Int) := by
  obtain ⟨j, h1, h2⟩ := List.mem_map.mp h
  exact ⟨j, List.mem_range.mp h1, h2.symm⟩
theorem pw_lt {B d : Nat} (hd : 0 < d) : ∀ i, pw B d i < d
  | 0 => Nat.mod_lt _ hd
  | i + 1 => Nat.mod_lt _ hd
theorem PL_bd {B d i : Nat} (hd : 0 < d) {x : Int} (h : x ∈ PL B d i) : 0 ≤ x ∧ x < d := by
  obtain ⟨j, _, rfl⟩ := PL_mem h
  have := pw_lt (B := B) hd j
  omega
theorem pw_zero (B d : Nat) : (1 : Int) % (d : Int) = ((pw B d 0 : Nat) : Int) := rfl
theorem pw_next (B d i : Nat) : ((pw B d i : Nat) : Int) * (B : Int) % (d : Int) = ((pw B d (i + 1) : Nat) : Int) := rfl
end R

/-! ## rings: plain law -/
namespace R
theorem nodup_leR {α : Type} [DecidableEq α] : ∀ {l D : List α}, l.Nodup → (∀ x, x ∈ l → x ∈ D) → l.length ≤ D.length
  | [], _, _, _ => Nat.zero_le _
  | x :: l, D, nd, h => by
    rw [List.nodup_cons] at nd
    have hx := h x List.mem_cons_self
    have q := nodup_leR (l := l) (D := D.erase x) nd.2 fun y hy => (List.mem_erase_of_ne (fun z : y = x => nd.1 (by rw [← z]; exact hy))).mpr (h y (List.mem_cons_of_mem _ hy))
    rw [List.length_erase_of_mem hx] at q
    have := List.length_pos_of_mem hx
    rw [List.length_cons]; omega
/-- n, F n, F (F n), .. -/
def itr (F : Int → Int) (n : Int) : Nat → Int
  | 0 => n
  | i + 1 => F (itr F n i)
def itrL (F : Int → Int) (n : Int) (m : Nat) : List Int := (List.range m).map (itr F n)
section
variable {F : Int → Int}
theorem itr_add (n : Int) (i : Nat) : ∀ j, itr F n (i + j) = itr F (itr F n i) j
  | 0 => rfl
  | j + 1 => by
    show F (itr F n (i + j)) = F (itr F (itr F n i) j)
    rw [itr_add n i j]
theorem itrL_len (n : Int) (m : Nat) : (itrL F n m).length = m := by unfold itrL; rw [List.length_map, List.length_range]
theorem itrL_at {n : Int} {m i : Nat} (h : i < m) : (itrL F n m)[i]? = some (itr F n i) := by
  unfold itrL
  rw [List.getElem?_map, List.getElem?_range h]; rfl
theorem itrL_succ (n : Int) (m : Nat) : itrL F n (m + 1) = itrL F n m ++ [itr F n m] := by
  unfold itrL
  rw [List.range_succ, List.map_append]; rfl
theorem itrL_mem {n : Int} {m : Nat} {x : Int} : x ∈ itrL F n m ↔ ∃ i, i < m ∧ x = itr F n i := by
  unfold itrL
  rw [List.mem_map]
  exact ⟨fun ⟨i, h1, h2⟩ => ⟨i, List.mem_range.mp h1, h2.symm⟩, fun ⟨i, h1, h2⟩ => ⟨i, List.mem_range.mpr h1, h2.symm⟩⟩
theorem itrL_nodup {n : Int} {m : Nat} (h : ∀ i j, i < j → j < m → itr F n i ≠ itr F n j) : (itrL F n m).Nodup := by
  unfold itrL
  rw [List.nodup_iff_pairwise_ne, List.pairwise_map]
  refine List.Pairwise.imp_of_mem ?_ (List.pairwise_lt_range (n := m))
  intro i j _ hj hij e
  exact h i j hij (List.mem_range.mp hj) e
/-- m numbers, all unlike, and the next is the one at place a -/
structure WayOf (F : Int → Int) (n : Int) (m a : Nat) : Prop where
  lt : a < m
  again : itr F n m = itr F n a
  dis : ∀ i j, i < j → j < m → itr F n i ≠ itr F n j
theorem WayOf.one {n : Int} {m a m' a' : Nat} (h : WayOf F n m a) (h' : WayOf F n m' a') : m = m' ∧ a = a' := by
  have e : m = m' := by
    rcases Nat.lt_trichotomy m m' with c | c | c
    · exact absurd h.again.symm (h'.dis a m h.lt c)
    · exact c
    · exact absurd h'.again.symm (h.dis a' m' h'.lt c)
  subst e
  refine ⟨rfl, ?_⟩
  have q : itr F n a = itr F n a' := by rw [← h.again, h'.again]
  rcases Nat.lt_trichotomy a a' with c | c | c
  · exact absurd q (h.dis a a' c h'.lt)
  · exact c
  · exact absurd q.symm (h.dis a' a c h.lt)
/-- a period -/
theorem itr_turn {n : Int} {p : Nat} (h : itr F n p = n) (i : Nat) : ∀ k, itr F n (i + k * p) = itr F n i
  | 0 => by rw [Nat.zero_mul]; rfl
  | k + 1 => by
    rw [show i + (k + 1) * p = p + (i + k * p) by rw [Nat.succ_mul]; omega, itr_add, h, itr_turn h i k]
theorem itr_mod {n : Int} {p : Nat} (h : itr F n p = n) (i : Nat) : itr F n i = itr F n (i % p) := by
  have e := itr_turn h (i % p) (i / p)
  rw [Nat.mul_comm, Nat.mod_add_div] at e
  exact e
/-- a ring of p numbers, from its least one -/
structure RingL (F : Int → Int) (m : Int) (p : Nat) : Prop where
  pos : 0 < p
  back : itr F m p = m
  dis : ∀ i j, i < j → j < p → itr F m i ≠ itr F m j
  least : ∀ i, i < p → m ≤ itr F m i
/-- n stands in this ring -/
def RingOf (F : Int → Int) (n : Int) (L : List Int) : Prop := ∃ m p, RingL F m p ∧ L = itrL F m p ∧ n ∈ L
theorem RingL.all {m : Int} {p : Nat} (h : RingL F m p) (i : Nat) : m ≤ itr F m i := by
  rw [itr_mod h.back i]
  exact h.least _ (Nat.mod_lt _ h.pos)
theorem RingL.home {m n : Int} {p : Nat} (h : RingL F m p) (hn : n ∈ itrL F m p) : ∃ j, itr F n j = m ∧ ∃ i, n = itr F m i := by
  obtain ⟨i, hi, rfl⟩ := itrL_mem.mp hn
  exact ⟨p - i, by rw [← itr_add, show i + (p - i) = p by omega, h.back], i, rfl⟩
theorem RingOf.one {n : Int} {L L' : List Int} (h : RingOf F n L) (h' : RingOf F n L') : L = L' := by
  obtain ⟨m, p, r, rfl, hn⟩ := h
  obtain ⟨m', p', r', rfl, hn'⟩ := h'
  obtain ⟨j, ej, i, ei⟩ := r.home hn
  obtain ⟨j', ej', i', ei'⟩ := r'.home hn'
  have le : m ≤ m' := by
    rw [← ej', ei, ← itr_add]
    exact r.all _
  have ge : m' ≤ m := by
    rw [← ej, ei', ← itr_add]
    exact r'.all _
  obtain rfl : m = m' := Int.le_antisymm le ge
  have e : p = p' := by
    have e1 : itr F m 0 = m := rfl
    rcases Nat.lt_trichotomy p p' with c | c | c
    · exact absurd (e1.trans r.back.symm) (r'.dis 0 p r.pos c)
    · exact c
    · exact absurd (e1.trans r'.back.symm) (r.dis 0 p' r'.pos c)
  rw [e]
/-- the same ring for all that stand in it -/
theorem RingOf.mem {n x : Int} {L : List Int} (h : RingOf F n L) (hx : x ∈ L) : RingOf F x L := by
  obtain ⟨m, p, r, rfl, _⟩ := h
  exact ⟨m, p, r, rfl, hx⟩
theorem RingOf.next {n : Int} {L : List Int} (h : RingOf F n L) : RingOf F (F n) L := by
  refine h.mem ?_
  obtain ⟨m, p, r, rfl, hn⟩ := h
  obtain ⟨i, hi, rfl⟩ := itrL_mem.mp hn
  refine itrL_mem.mpr ⟨(i + 1) % p, Nat.mod_lt _ r.pos, ?_⟩
  show itr F m (i + 1) = _
  exact itr_mod r.back _
theorem RingOf.iter {n : Int} {L : List Int} (h : RingOf F n L) : ∀ i, RingOf F (itr F n i) L
  | 0 => h
  | i + 1 => (h.iter i).next
/-- all p unlike, back to n, turned to the least one -/
theorem ring_turn {n : Int} {p k : Nat} (hp : k < p) (back : itr F n p = n) (dis : ∀ i j, i < j → j < p → itr F n i ≠ itr F n j) (least : ∀ i, i < p → itr F n k ≤ itr F n i) :
    RingOf F n ((itrL F n p).drop k ++ (itrL F n p).take k) := by
  have sh : ∀ i, itr F (itr F n k) i = itr F n (k + i) := fun i => (itr_add n k i).symm
  have md : ∀ i, itr F n i = itr F n (i % p) := itr_mod back
  have bk : itr F (itr F n k) p = itr F n k := by
    rw [sh, show k + p = k + 1 * p by omega, itr_turn back]
  have mi : ∀ i j, i < j → j < p → (k + i) % p ≠ (k + j) % p := fun i j h1 h2 e => by
    have a1 : (k + i) % p = if k + i < p then k + i else k + i - p := by
      split
      · exact Nat.mod_eq_of_lt (by assumption)
      · rw [Nat.mod_eq_sub_mod (by omega), Nat.mod_eq_of_lt (by omega)]
    have a2 : (k + j) % p = if k + j < p then k + j else k + j - p := by
      split
      · exact Nat.mod_eq_of_lt (by assumption)
      · rw [Nat.mod_eq_sub_mod (by omega), Nat.mod_eq_of_lt (by omega)]
    rw [a1, a2] at e
    split at e <;> split at e <;> omega
  refine ⟨itr F n k, p, ⟨by omega, bk, fun i j h1 h2 e => ?_, fun i hi => ?_⟩, ?_, ?_⟩
  · rw [sh, sh, md (k + i), md (k + j)] at e
    have m1 := Nat.mod_lt (k + i) (show 0 < p by omega)
    have m2 := Nat.mod_lt (k + j) (show 0 < p by omega)
    rcases Nat.lt_trichotomy ((k + i) % p) ((k + j) % p) with c | c | c
    · exact dis _ _ c m2 e
    · exact mi i j h1 h2 c
    · exact dis _ _ c m1 e.symm
  · rw [sh, md (k + i)]
    exact least _ (Nat.mod_lt _ (by omega))
  · refine List.ext_getElem? fun i => ?_
    by_cases c : i < p
    · rw [itrL_at c, sh]
      by_cases c2 : k + i < p
      · rw [List.getElem?_append_left (by rw [List.length_drop, itrL_len]; omega), List.getElem?_drop, itrL_at c2]
      · rw [List.getElem?_append_right (by rw [List.length_drop, itrL_len]; omega), List.length_drop, itrL_len, List.getElem?_take, if_pos (by omega), itrL_at (by omega), md (k + i)]
        congr 2
        rw [Nat.mod_eq_sub_mod (by omega), Nat.mod_eq_of_lt (by omega)]
        omega
    · rw [List.getElem?_eq_none (l := itrL F (itr F n k) p) (by rw [itrL_len]; omega), List.getElem?_eq_none (by rw [List.length_append, List.length_drop, List.length_take, itrL_len]; omega)]
  · rw [List.mem_append, Or.comm, ← List.mem_append, List.take_append_drop]
    exact itrL_mem.mpr ⟨0, by omega, rfl⟩
/-- within a line: at most so many unlike numbers -/
theorem way_few {n C : Int} {e m : Nat} (h0 : 0 ≤ C) (hb : ∀ i, e ≤ i → -C ≤ itr F n i ∧ itr F n i ≤ C) (h : ∀ i j, i < j → j < m → itr F n i ≠ itr F n j) : (m : Int) ≤ e + 2 * C + 1 := by
  by_cases c : e ≤ m
  · have nd : ((List.range (m - e)).map fun i => itr F n (e + i)).Nodup := by
      rw [List.nodup_iff_pairwise_ne, List.pairwise_map]
      refine List.Pairwise.imp_of_mem ?_ (List.pairwise_lt_range (n := m - e))
      intro i j _ hj hij
      have := List.mem_range.mp hj
      exact h _ _ (by omega) (by omega)
    have q := nodup_leR (D := (List.range (2 * C + 1).toNat).map fun (j : Nat) => (j : Int) - C) nd fun x hx => by
      obtain ⟨i, _, rfl⟩ := List.mem_map.mp hx
      have b := hb (e + i) (by omega)
      exact List.mem_map.mpr ⟨(itr F n (e + i) + C).toNat, List.mem_range.mpr (by omega), by omega⟩
    rw [List.length_map, List.length_map, List.length_range, List.length_range] at q
    omega
  · omega
end
end R
/-! the numbers that a trick makes -/
namespace R
theorem half_step {B t n : Int} (hB : 2 ≤ B ∧ B ≤ 256) (ht : -100 ≤ t ∧ t ≤ 100) : (n / B + t * (n % B)).natAbs ≤ n.natAbs / 2 + 25501 := by
  have r0 : 0 ≤ n % B := Int.emod_nonneg _ (by omega)
  have r1 : n % B < B := Int.emod_lt_of_pos _ (by omega)
  have e := Int.mul_ediv_add_emod n B
  have t1 : t * (n % B) ≤ 100 * (n % B) := Int.mul_le_mul_of_nonneg_right ht.2 r0
  have t2 : -100 * (n % B) ≤ t * (n % B) := Int.mul_le_mul_of_nonneg_right ht.1 r0
  have q : (n / B).natAbs ≤ n.natAbs / 2 + 1 := by
    generalize n / B = q at *
    by_cases c : 0 ≤ q
    · have := Int.mul_le_mul_of_nonneg_right hB.1 c
      omega
    · have z : B * (-q) ≥ 2 * (-q) := Int.mul_le_mul_of_nonneg_right hB.1 (by omega)
      rw [Int.mul_neg] at z
      by_cases c2 : q ≤ -2
      · have z2 : B * (-q - 1) ≥ 2 * (-q - 1) := Int.mul_le_mul_of_nonneg_right hB.1 (by omega)
        rw [Int.mul_sub, Int.mul_neg, Int.mul_one] at z2
        omega
      · omega
  generalize t * (n % B) = s at *
  generalize n / B = q at *
  omega
theorem itr_near {F : Int → Int} (h : ∀ n, (F n).natAbs ≤ n.natAbs / 2 + 25501) (n : Int) : ∀ i, (itr F n i).natAbs ≤ n.natAbs / 2 ^ i + 51003
  | 0 => by show n.natAbs ≤ _; rw [Nat.pow_zero, Nat.div_one]; omega
  | i + 1 => by
    have q := itr_near h n i
    have z := h (itr F n i)
    have e : n.natAbs / 2 ^ (i + 1) = n.natAbs / 2 ^ i / 2 := by rw [Nat.pow_succ, Nat.div_div_eq_div_mul]
    rw [e]
    show (F (itr F n i)).natAbs ≤ _
    omega
theorem itr_in {F : Int → Int} (h : ∀ n, (F n).natAbs ≤ n.natAbs / 2 + 25501) {n : Int} (hn : -(10 ^ 40) ≤ n ∧ n ≤ 10 ^ 40) (i : Nat) (hi : 140 ≤ i) : -51003 ≤ itr F n i ∧ itr F n i ≤ 51003 := by
  have q := itr_near h n i
  have z : n.natAbs / 2 ^ i = 0 := by
    refine Nat.div_eq_of_lt (Nat.lt_of_lt_of_le (show n.natAbs < 2 ^ 140 by omega) (Nat.pow_le_pow_right (by omega) hi))
  rw [z] at q
  omega
/-- a way is short -/
theorem way_short {F : Int → Int} (h : ∀ n, (F n).natAbs ≤ n.natAbs / 2 + 25501) {n : Int} (hn : -(10 ^ 40) ≤ n ∧ n ≤ 10 ^ 40) {m : Nat} (hd : ∀ i j, i < j → j < m → itr F n i ≠ itr F n j) : m ≤ 102147 := by
  have := way_few (C := 51003) (e := 140) (by omega) (fun i hi => itr_in h hn i hi) hd
  omega
theorem way_ex {F : Int → Int} (h : ∀ n, (F n).natAbs ≤ n.natAbs / 2 + 25501) {n : Int} (hn : -(10 ^ 40) ≤ n ∧ n ≤ 10 ^ 40) : ∃ m a, WayOf F n m a := by
  apply Classical.byContradiction
  intro no
  have all : ∀ m, ∀ i j, i < j → j < m → itr F n i ≠ itr F n j := by
    intro m
    induction m with
    | zero => intro i j _ h; omega
    | succ m ih =>
      intro i j h1 h2 e
      by_cases c : j = m
      · subst c; exact no ⟨j, i, ⟨h1, e.symm, ih⟩⟩
      · exact ih i j h1 (by omega) e
  have := way_short h hn (all 102148)
  omega
end R

/-! ## dicts whose keys are ints -/
namespace R
open PySem PySem.Spec PyProof.Rows L2
def entK (x : Int × V) : Key × V := (.inl x.1, x.2)
def KD (kvs : List (Int × V)) : HO := .dK (kvs.map entK)
theorem val_entK (kvs : List (Int × V)) (n : Int) : valV (kvs.map entK) (Sum.inl n : Key) = (kvs.find? fun x => decide (x.1 = n)).map (·.2) := by
  induction kvs with
  | nil => rfl
  | cons x l ih =>
    rw [List.map_cons, List.find?_cons]
    by_cases c : x.1 = n
    · rw [valV_pos (by show (Sum.inl x.1 : Key) = _; rw [c]), decide_eq_true c]
      rfl
    · rw [valV_neg (fun e => c (Sum.inl.inj e)), decide_eq_false c, ih]
theorem some_entK (kvs : List (Int × V)) (n : Int) : (valV (kvs.map entK) (Sum.inl n : Key)).isSome = decide (n ∈ kvs.map (·.1)) := by
  rw [← valV_any, List.any_map, Bool.eq_iff_iff, List.any_eq_true, decide_eq_true_iff, List.mem_map]
  constructor
  · rintro ⟨x, hx, e⟩
    have e : (Sum.inl x.1 : Key) = Sum.inl n := of_decide_eq_true e
    exact ⟨x, hx, Sum.inl.inj e⟩
  · rintro ⟨x, hx, rfl⟩
    exact ⟨x, hx, decide_eq_true rfl⟩
theorem put_entK {kvs : List (Int × V)} {n : Int} (v : V) (h : n ∉ kvs.map (·.1)) : putK (kvs.map entK) (Sum.inl n : Key) v = (kvs ++ [(n, v)]).map entK := by
  have z : valV (kvs.map entK) (Sum.inl n : Key) = none := by
    have q := some_entK kvs n
    rw [decide_eq_false h] at q
    cases e : valV (kvs.map entK) (Sum.inl n : Key) with
    | none => rfl
    | some x => rw [e] at q; cases q
  rw [putK_new v z, List.map_append]
  rfl
section
variable {σ : L2.St} {H : Hp} {Q : VK} {td ty tv : TE} {D : Ends}
theorem a_dnin (h : ty σ H fun y H1 => td σ H1 fun x H2 => ∃ a o, x = .ref a ∧ DGet H2 a y o ∧ Q (.bl (!o.isSome)) H2) : tDNotIn ty td σ H Q := h
theorem a_din (h : ty σ H fun y H1 => td σ H1 fun x H2 => ∃ a o, x = .ref a ∧ DGet H2 a y o ∧ Q (.bl o.isSome) H2) : tDIn ty td σ H Q := h
theorem a_dget (h : td σ H fun x H1 => ty σ H1 fun y H2 => ∃ a v, x = .ref a ∧ DGet H2 a y (some v) ∧ Q v H2) : tDGet td ty σ H Q := h
theorem a_dset (h : tv σ H fun v H1 => td σ H1 fun x H2 => ty σ H2 fun y H3 => ∃ a H4, x = .ref a ∧ DPut H3 a y v H4 ∧ D.nx σ H4) : sDPut td ty tv D σ H := h
end
section
variable {B H : Hp} {Lw : List (Addr × HO)} {a : Addr} {kvs : List (Int × V)} {n : Int} {v : V}
/-- d[n] = v, a new key -/
theorem a_putK (O : Own B Lw H) (i : Nat) (hi : Lw[i]? = some (a, KD kvs)) (hn : n ∉ kvs.map (·.1)) (hl : kvs.length < 1000000) (P : Hp → Prop) (h : ∀ H', Own B (Lw.set i (a, KD (kvs ++ [(n, v)]))) H' → P H') : ∃ c H4, V.ref a = .ref c ∧ DPut H c (.int n) v H4 ∧ P H4 := by
  refine ⟨a, _, rfl, DPut.k (kvs := kvs.map entK) (k := .inl n) (O.get i hi) (Nat.lt_of_lt_of_le (show (kvs.map entK).length < 1000000 by rw [List.length_map]; exact hl) (by decide)), ?_⟩
  rw [put_entK v hn]
  exact h _ (O.put i hi)
/-- n in d, n not in d -/
theorem has_K (ha : Rd H a (KD kvs)) (n : Int) : ∃ o, DGet H a (.int n) o ∧ o.isSome = decide (n ∈ kvs.map (·.1)) := ⟨_, .inl ⟨kvs.map entK, .inl n, ha, rfl, rfl⟩, some_entK kvs n⟩
/-- d[n] -/
theorem get_K (ha : Rd H a (KD kvs)) (hv : (kvs.find? fun x => decide (x.1 = n)).map (·.2) = some v) : DGet H a (.int n) (some v) := .inl ⟨kvs.map entK, .inl n, ha, rfl, by rw [val_entK, hv]⟩
theorem a_getK (ha : Rd H a (KD kvs)) {P : V → Hp → Prop} (hv : (kvs.find? fun x => decide (x.1 = n)).map (·.2) = some v) (h : P v H) : ∃ c v, V.ref a = .ref c ∧ DGet H c (.int n) (some v) ∧ P v H :=
  ⟨a, v, rfl, .inl ⟨kvs.map entK, .inl n, ha, rfl, by rw [val_entK, hv]⟩, h⟩
end
theorem a_catM {B H : Hp} {Lw : List (Addr × HO)} {a b : Addr} {xs ys : List V} {Q : VK} (O : Own B Lw H) (ha : H a = some (.lst xs)) (hb : H b = some (.lst ys)) (hz : xs.length + ys.length ≤ 1000000) (q : ∀ p H', H p = none → Own B ((p, .lst (xs ++ ys)) :: Lw) H' → Q (.ref p) H') : rCat (.ref a) (.ref b) H Q :=
  ⟨a, b, xs, ys, rfl, rfl, ha, hb, Nat.le_trans hz (by decide), fun p hp => q p _ hp (O.new hp)⟩
end R

/-! ## d.update(e), both dicts with int keys -/
namespace R
open PySem PySem.Spec PyProof.Rows L2
open PySem.W (Frag)
def rUpdate : V → List V → Hp → VK → Prop := fun x xs H Q => ∃ (a b : Addr) (kvs more : List (Key × V)), x = .ref a ∧ xs = [.ref b] ∧ H a = some (.dK kvs) ∧ Rd H b (.dK more) ∧ a ≠ b ∧ kvs.length + more.length ≤ sizeLine ∧ Q .non (upd H a (.dK (mergeK kvs more)))
theorem mt_update {X : Cx} : MtR X "dict.update" rUpdate := by
  intro pins s σ H x xs v us Q I rx rv h
  obtain ⟨a, b, kvs, more, rfl, rfl, ea, eb, ne, hz, q⟩ := h
  obtain rfl : v = Value.ref a := rx
  obtain ⟨u, rfl, ru⟩ := rv.one
  obtain rfl : u = Value.ref b := ru
  obtain ⟨z, hd, vs, rel, dd⟩ := dk_of I.hok ea
  obtain ⟨z2, hd2, rs, rel2, dd2⟩ := dk_rd I.hok eb
  refine call_meetsIn PySem.F.slot_dict_update dd.typeIs PySem.F.entry_dict_update (PySem.F.args_dict_update_2 _ _) (meets_dict_update (mixKind X.prog X.w) a b ne hd2) ⟨vs, rs, dd, dd2, ?_, fun h' dd' _ hs => ?_⟩
  · rw [← rel.length, ← rel2.length]; exact hz
  · have hl := length_mergeK more kvs
    have he : ∃ q, h'.get? a = some q := let ⟨q, _, _, hq, _⟩ := dd'; ⟨q, hq⟩
    exact ⟨.non, _, d_write I (by rw [ea]; exact True.intro) hs he (dk_new (by omega) hd (rel2.merge rel) dd'), rfl, q⟩
theorem merge_entK : ∀ {more kvs : List (Int × V)}, ((kvs ++ more).map (·.1)).Nodup → mergeK (kvs.map entK) (more.map entK) = (kvs ++ more).map entK
  | [], kvs, _ => by rw [List.append_nil]; rfl
  | (n, v) :: more, kvs, nd => by
    have hn : n ∉ kvs.map (·.1) := fun z => by
      rw [List.map_append, List.map_cons, List.nodup_append] at nd
      exact nd.2.2 n z n List.mem_cons_self rfl
    show mergeK (putK (kvs.map entK) (Sum.inl n : Key) v) (more.map entK) = _
    rw [put_entK v hn, merge_entK (by rw [List.append_assoc]; exact nd), List.append_assoc]
    rfl
section
variable {B H : Hp} {Lw : List (Addr × HO)} {a b : Addr} {kvs more : List (Int × V)} {Q : VK}
theorem a_upd (O : Own B Lw H) (i j : Nat) (hi : Lw[i]? = some (a, KD kvs)) (hj : Lw[j]? = some (b, KD more)) (ne : a ≠ b) (nd : ((kvs ++ more).map (·.1)).Nodup) (hl : kvs.length + more.length ≤ 1000000)
    (q : ∀ H', Own B (Lw.set i (a, KD (kvs ++ more))) H' → Q .non H') : rUpdate (.ref a) [.ref b] H Q :=
  ⟨a, b, _, _, rfl, rfl, O.get i hi, .inl (O.get j hj), ne, by rw [List.length_map, List.length_map]; exact Nat.le_trans hl (by decide), by
    rw [merge_entK nd]
    exact q _ (O.put i hi)⟩
end
end R

/-! ## sorted(xs), xs a list of tuples of ints (none empty), or a dict with such keys -/
namespace R
open PySem PySem.Spec PyProof.Rows L2
open PySem.W (Frag EachIs AllAlike Sortable sorted_data list_sort_data dataLe dataLt alike_ints depth_ints)
/-- the refs of rows -/
def refs {α : Type} (ps : List (Addr × α)) : List V := ps.map fun q => V.ref q.1
def encT (q : Addr × List Int) : PyData := .tuple (q.2.map .int)
def leT (x y : Addr × List Int) : Bool := decide (x.2 ≤ y.2)
theorem dataLe_T : dataLe false encT = leT := by
  funext p q
  show (!dataLt (.tuple (q.2.map .int)) (.tuple (p.2.map .int))) = _
  rw [PySem.W.dataLt_tuple]
  show (!PySem.W.rowLt (q.2.map .int) (p.2.map .int)) = _
  rw [PySem.W.dataLt_ints]
  unfold leT
  by_cases h : q.2 < p.2
  · have h' : ¬ p.2 ≤ q.2 := fun r => List.not_lt.mpr r h
    simp [h, h']
  · have h' : p.2 ≤ q.2 := List.not_lt.mp h
    simp [h, h']
def isRef (v : Value) (q : Addr × List Int) : Prop := v = .ref q.1
theorem vals_refs {α : Type} : ∀ {ps : List (Addr × α)} {its : List Value}, Vals (refs ps) its → its = ps.map fun q => Value.ref q.1
  | [], _, h => by cases h; rfl
  | q :: ps, _, h => by
    cases h with
    | cons h1 h2 =>
      cases h1
      rw [vals_refs h2]; rfl
theorem refs_vals {α : Type} : ∀ (ps : List (Addr × α)), Vals (refs ps) (ps.map fun q => Value.ref q.1)
  | [] => .nil
  | q :: ps => .cons rfl (refs_vals ps)
theorem each_refs {P : Value → (Addr × List Int) → Prop} : ∀ {ps : List (Addr × List Int)}, (∀ q ∈ ps, P (.ref q.1) q) → EachIs P (ps.map fun q => Value.ref q.1) ps
  | [], _ => .nil
  | q :: ps, h => .cons (h q List.mem_cons_self) (each_refs fun x hx => h x (List.mem_cons_of_mem _ hx))
theorem each_isRef : ∀ {ps : List (Addr × List Int)} {vs : List Value}, EachIs isRef vs ps → vs = ps.map fun q => Value.ref q.1
  | [], _, h => by cases h; rfl
  | q :: ps, _, h => by
    cases h with
    | cons h1 h2 => rw [each_isRef h2, show _ = _ from h1]; rfl
theorem alike_T (ps : List (Addr × List Int)) : AllAlike (ps.map encT) := AllAlike.of fun b b' => by
  show PySem.W.alikeAll _ _ = true
  exact alike_ints _ _
theorem sortable_T {ps : List (Addr × List Int)} (h : ∀ q ∈ ps, q.2 ≠ []) : Sortable (ps.map encT) := .inl fun d hd => by
  obtain ⟨q, hq, rfl⟩ := List.mem_map.mp hd
  obtain ⟨a, l⟩ := q
  cases l with
  | nil => exact absurd rfl (h _ hq)
  | cons x r => exact ⟨.int x, r.map .int, rfl⟩
theorem depth_T (q : Addr × List Int) : (encT q).depth ≤ 1 := by
  show PyData.depth (.tuple (q.2.map .int)) ≤ 1
  simp only [PyData.depth]
  rw [depth_ints]
  decide
theorem dp_ints {K : Frag} {H : Hp} : ∀ l : List Int, DpAll K H (l.map V.int) (l.map .int)
  | [] => .nil
  | x :: l => .cons (.int x) (dp_ints l)
def rSortedTs (K : Frag) : List V → Hp → VK → Prop := fun vs H Q => ∃ (a : Addr) (ps : List (Addr × List Int)), vs = [.ref a] ∧ SqL K H a (refs ps) ∧ (∀ q ∈ ps, SqT K H q.1 (q.2.map V.int) ∧ q.2 ≠ []) ∧ ∀ p, H p = none → Q (.ref p) (upd H p (.lst (refs (ps.mergeSort leT))))
theorem cr_sortedTs {X : Cx} (hu : X.A.units + 64 < cLine) : CallR X (.builtin "sorted") (rSortedTs X.K) := by
  intro pins s σ H vs us Q I r h
  obtain ⟨a, ps, rfl, hs, hx, q⟩ := h
  obtain ⟨its, rv, hl, hz⟩ := I.list hs
  obtain ⟨u, rfl, ru⟩ := vals1 r
  obtain rfl : u = Value.ref a := ru
  obtain rfl := vals_refs rv
  have hz : ps.length ≤ sizeLine := by rw [← List.length_map (f := fun q : Addr × List Int => V.ref q.1)]; exact hz
  refine sorted_data (R := isRef) (enc := encT) (bs := ps) hl.isList (each_refs fun _ _ => rfl) (each_refs fun x hx' => ?_) (alike_T ps) (sortable_T fun x hx' => (hx x hx').2) hz (fun b _ => ?_) fun out hlen eo => ?_
  · exact Dp.reads I _ _ _ (.tup (hx x hx').1 (dp_ints _)) rfl
  · have := depth_T b; omega
  · rw [dataLe_T] at eo
    obtain rfl := each_isRef eo
    obtain ⟨n, hn⟩ := sortedAll_at s.heap (ps.map fun q => Value.ref q.1) ((ps.mergeSort leT).map fun q => Value.ref q.1).toArray
    refine ⟨.ref (s.heap.objs.size + 1), upd H (s.heap.objs.size + 1) (.lst (refs (ps.mergeSort leT))), I.laid (t' := s.toks) (fun b o e => sortedAll_old e) (Nat.le_succ _) ⟨?_, _, n, refs_vals _, hn⟩, rfl, q _ (I.hok.fresh (Nat.le_succ _))⟩
    rw [show (refs (ps.mergeSort leT)).length = ps.length by unfold refs; rw [List.length_map, List.length_mergeSort]]
    exact hz
/-! the order -/
theorem leT_le {x y : Addr × List Int} : leT x y = true ↔ x.2 ≤ y.2 := decide_eq_true_iff
theorem sort_T (ps : List (Addr × List Int)) : ((ps.mergeSort leT).map (·.2)).Pairwise (· ≤ ·) := by
  rw [List.pairwise_map]
  refine (List.pairwise_mergeSort (le := leT) (fun a b c h1 h2 => ?_) (fun a b => ?_) ps).imp fun h => leT_le.mp h
  · exact leT_le.mpr (List.le_trans (leT_le.mp h1) (leT_le.mp h2))
  · rw [Bool.or_eq_true]
    rcases List.le_total a.2 b.2 with h | h
    · exact .inl (leT_le.mpr h)
    · exact .inr (leT_le.mpr h)
theorem sort_memT {ps : List (Addr × List Int)} {q : Addr × List Int} : q ∈ ps.mergeSort leT ↔ q ∈ ps := List.mem_mergeSort
/-- two sorted lists without repeats that have the same members are one -/
theorem sorted_one : ∀ {l m : List (List Int)}, l.Pairwise (· ≤ ·) → m.Pairwise (· ≤ ·) → l.Nodup → m.Nodup → (∀ x, x ∈ l ↔ x ∈ m) → l = m
  | [], [], _, _, _, _, _ => rfl
  | [], y :: m, _, _, _, _, h => absurd ((h y).mpr List.mem_cons_self) List.not_mem_nil
  | x :: l, [], _, _, _, _, h => absurd ((h x).mp List.mem_cons_self) List.not_mem_nil
  | x :: l, y :: m, s1, s2, n1, n2, h => by
    rw [List.pairwise_cons] at s1 s2
    rw [List.nodup_cons] at n1 n2
    have e : x = y := by
      rcases List.mem_cons.mp ((h x).mp List.mem_cons_self) with e | e
      · exact e
      · rcases List.mem_cons.mp ((h y).mpr List.mem_cons_self) with e2 | e2
        · exact e2.symm
        · exact List.le_antisymm (s1.1 y e2) (s2.1 x e)
    subst e
    rw [sorted_one s1.2 s2.2 n1.2 n2.2 fun z => ⟨fun hz => ?_, fun hz => ?_⟩]
    · rcases List.mem_cons.mp ((h z).mp (List.mem_cons_of_mem _ hz)) with e | e
      · exact absurd (e ▸ hz) n1.1
      · exact e
    · rcases List.mem_cons.mp ((h z).mpr (List.mem_cons_of_mem _ hz)) with e | e
      · exact absurd (e ▸ hz) n2.1
      · exact e
end R

/-! ## all rings: plain law -/
namespace R
section
variable {F : Int → Int}
theorem RingOf.self {n : Int} {L : List Int} (h : RingOf F n L) : n ∈ L := let ⟨_, _, _, _, q⟩ := h; q
/-- who stands in a ring comes to each other one -/
theorem RingOf.reach {n x : Int} {L : List Int} (h : RingOf F n L) (hx : x ∈ L) : ∃ j, itr F n j = x := by
  obtain ⟨m, p, r, rfl, hn⟩ := h
  obtain ⟨j, ej, _⟩ := r.home hn
  obtain ⟨i, _, rfl⟩ := itrL_mem.mp hx
  exact ⟨j + i, by rw [itr_add, ej]⟩
/-- S: a set that F does not leave; Ls: all rings with a number in it -/
structure RingsIn (F : Int → Int) (S : List Int) (Ls : List (List Int)) : Prop where
  cl : ∀ x ∈ S, F x ∈ S
  nd : S.Nodup
  ln : Ls.Nodup
  rg : ∀ L, L ∈ Ls ↔ ∃ x, x ∈ S ∧ RingOf F x L
theorem RingsIn.none : RingsIn F [] [] := ⟨fun _ h => by simp at h, .nil, .nil, fun L => by simp⟩
section
variable {S : List Int} {Ls : List (List Int)} {n : Int} {j i : Nat}
theorem RingsIn.iter (h : RingsIn F S Ls) {x : Int} (hx : x ∈ S) : ∀ i, itr F x i ∈ S
  | 0 => hx
  | i + 1 => h.cl _ (h.iter hx i)
theorem RingsIn.grow (h : RingsIn F S Ls) (dis : ∀ i i', i < i' → i' < j → itr F n i ≠ itr F n i') (out : ∀ i, i < j → itr F n i ∉ S) : (S ++ itrL F n j).Nodup := by
  rw [List.nodup_append]
  refine ⟨h.nd, itrL_nodup dis, fun a ha b hb e => ?_⟩
  obtain ⟨i, hi, rfl⟩ := itrL_mem.mp hb
  exact out i hi (e ▸ ha)
/-- the way runs into what is known -/
theorem RingsIn.join (h : RingsIn F S Ls) (dis : ∀ i i', i < i' → i' < j → itr F n i ≠ itr F n i') (out : ∀ i, i < j → itr F n i ∉ S) (hit : itr F n j ∈ S) : RingsIn F (S ++ itrL F n j) Ls := by
  refine ⟨fun x hx => ?_, h.grow dis out, h.ln, fun L => ⟨fun hL => ?_, ?_⟩⟩
  · rcases List.mem_append.mp hx with hx | hx
    · exact List.mem_append_left _ (h.cl x hx)
    · obtain ⟨i, hi, rfl⟩ := itrL_mem.mp hx
      by_cases c : i + 1 = j
      · exact List.mem_append_left _ (show itr F n (i + 1) ∈ S by rw [c]; exact hit)
      · exact List.mem_append_right _ (itrL_mem.mpr ⟨i + 1, by omega, rfl⟩)
  · obtain ⟨x, hx, r⟩ := (h.rg L).mp hL
    exact ⟨x, List.mem_append_left _ hx, r⟩
  · rintro ⟨x, hx, r⟩
    rcases List.mem_append.mp hx with hx | hx
    · exact (h.rg L).mpr ⟨x, hx, r⟩
    · obtain ⟨i, hi, rfl⟩ := itrL_mem.mp hx
      have q := r.iter (j - i)
      rw [← itr_add, show i + (j - i) = j by omega] at q
      exact (h.rg L).mpr ⟨_, hit, q⟩
/-- the way runs into itself: a new ring -/
theorem RingsIn.more (h : RingsIn F S Ls) {L0 : List Int} (w : WayOf F n j i) (out : ∀ i, i < j → itr F n i ∉ S) (r0 : RingOf F (itr F n i) L0) : RingsIn F (S ++ itrL F n j) (Ls ++ [L0]) := by
  refine ⟨fun x hx => ?_, h.grow w.dis out, ?_, fun L => ⟨fun hL => ?_, ?_⟩⟩
  · rcases List.mem_append.mp hx with hx | hx
    · exact List.mem_append_left _ (h.cl x hx)
    · obtain ⟨k, hk, rfl⟩ := itrL_mem.mp hx
      refine List.mem_append_right _ (itrL_mem.mpr ?_)
      by_cases c : k + 1 = j
      · exact ⟨i, w.lt, by rw [← w.again, ← c]; rfl⟩
      · exact ⟨k + 1, by omega, rfl⟩
  · rw [List.nodup_append]
    refine ⟨h.ln, List.nodup_cons.mpr ⟨List.not_mem_nil, .nil⟩, fun a ha b hb e => ?_⟩
    rw [List.mem_singleton] at hb
    subst hb e
    obtain ⟨x, hx, r⟩ := (h.rg _).mp ha
    obtain ⟨k, ek⟩ := r.reach r0.self
    exact out i w.lt (ek ▸ h.iter hx k)
  · rcases List.mem_append.mp hL with hL | hL
    · obtain ⟨x, hx, r⟩ := (h.rg L).mp hL
      exact ⟨x, List.mem_append_left _ hx, r⟩
    · rw [List.mem_singleton] at hL
      subst hL
      exact ⟨itr F n i, List.mem_append_right _ (itrL_mem.mpr ⟨i, w.lt, rfl⟩), r0⟩
  · rintro ⟨x, hx, r⟩
    rcases List.mem_append.mp hx with hx | hx
    · exact List.mem_append_left _ ((h.rg L).mpr ⟨x, hx, r⟩)
    · obtain ⟨k, hk, rfl⟩ := itrL_mem.mp hx
      have q := r.iter (j - k)
      rw [← itr_add, show k + (j - k) = j by omega, w.again] at q
      exact List.mem_append_right _ (by rw [RingOf.one q r0]; exact List.mem_singleton_self _)
end
/-- a ring has a number that does not get less -/
theorem RingL.low {m : Int} {p : Nat} {C : Int} (h : RingL F m p) (hF : ∀ x : Int, C < (x.natAbs : Int) → ((F x).natAbs : Int) < (x.natAbs : Int)) : ∃ i, i < p ∧ ((itr F m i).natAbs : Int) ≤ C := by
  apply Classical.byContradiction
  intro no
  have all : ∀ i, C < ((itr F m i).natAbs : Int) := fun i => by
    rw [itr_mod h.back i]
    apply Int.not_le.mp
    intro z
    exact no ⟨i % p, Nat.mod_lt _ h.pos, z⟩
  have down : ∀ i : Nat, ((itr F m i).natAbs : Int) + i ≤ (m.natAbs : Int) := by
    intro i
    induction i with
    | zero => show ((m.natAbs : Nat) : Int) + ((0 : Nat) : Int) ≤ _; omega
    | succ i ih =>
      have q := hF _ (all i)
      show ((F (itr F m i)).natAbs : Int) + ((i + 1 : Nat) : Int) ≤ _
      omega
  have q := down p
  rw [h.back] at q
  have := h.pos
  omega
/-- all rings -/
structure AllRings (F : Int → Int) (Ls : List (List Int)) : Prop where
  ln : Ls.Nodup
  rg : ∀ L, L ∈ Ls ↔ ∃ x, RingOf F x L
theorem RingsIn.all {S : List Int} {Ls : List (List Int)} {C : Int} (h : RingsIn F S Ls) (hF : ∀ x : Int, C < (x.natAbs : Int) → ((F x).natAbs : Int) < (x.natAbs : Int)) (hS : ∀ x : Int, -C ≤ x → x ≤ C → x ∈ S) : AllRings F Ls := by
  refine ⟨h.ln, fun L => ⟨fun hL => ?_, ?_⟩⟩
  · obtain ⟨x, _, r⟩ := (h.rg L).mp hL
    exact ⟨x, r⟩
  · rintro ⟨x, r⟩
    obtain ⟨m, p, rl, e, _⟩ := id r
    obtain ⟨i, hi, hl⟩ := rl.low hF
    have hm : itr F m i ∈ L := by rw [e]; exact itrL_mem.mpr ⟨i, hi, rfl⟩
    exact (h.rg L).mpr ⟨_, hS _ (by omega) (by omega), r.mem hm⟩
theorem AllRings.perm {Ls Ms : List (List Int)} (h : AllRings F Ls) (p : Ms.Perm Ls) : AllRings F Ms := ⟨p.nodup_iff.mpr h.ln, fun L => by rw [p.mem_iff]; exact h.rg L⟩
theorem AllRings.one {Ls Ms : List (List Int)} (h : AllRings F Ls) (h' : AllRings F Ms) (s : Ls.Pairwise (· ≤ ·)) (s' : Ms.Pairwise (· ≤ ·)) : Ls = Ms :=
  sorted_one s s' h.ln h'.ln fun L => by rw [h.rg, h'.rg]
theorem RingOf.ne {n : Int} {L : List Int} (h : RingOf F n L) : L ≠ [] := fun e => by
  have := h.self
  rw [e] at this
  cases this
/-- all that is met stays near -/
theorem itr_near1 {C : Nat} (h : ∀ n, (F n).natAbs ≤ n.natAbs / 2 + 25501) (hC : 51003 ≤ C) {n : Int} (hn : n.natAbs ≤ C) : ∀ i, (itr F n i).natAbs ≤ C
  | 0 => hn
  | i + 1 => by
    have q := itr_near1 h hC hn i
    have z := h (itr F n i)
    show (F (itr F n i)).natAbs ≤ C
    omega
theorem few_near {S : List Int} {C : Nat} (nd : S.Nodup) (h : ∀ x ∈ S, x.natAbs ≤ C) : S.length ≤ 2 * C + 1 := by
  have q := nodup_leR (D := (List.range (2 * C + 1)).map fun (j : Nat) => (j : Int) - C) nd fun x hx => by
    have := h x hx
    exact List.mem_map.mpr ⟨(x + C).toNat, List.mem_range.mpr (by omega), by omega⟩
  rw [List.length_map, List.length_range] at q
  exact q
end
end R
namespace R
open PySem L2
def trueK (ns : List Int) : HO := KD (ns.map fun n => (n, V.bl true))
theorem trueK_keys (ns : List Int) : (ns.map fun n => (n, V.bl true)).map (·.1) = ns := by rw [List.map_map]; exact List.map_id _
theorem beh_half {b k t : Int} (hb : 2 ≤ b ^ k.toNat ∧ b ^ k.toNat ≤ 256) (ht : -100 ≤ t ∧ t ≤ 100) (n : Int) : (beh b k t n).natAbs ≤ n.natAbs / 2 + 25501 := half_step hb ht
theorem bound_near {b k t m : Int} (hb : 2 ≤ b ^ k.toNat ∧ b ^ k.toNat ≤ 256) (ht : -100 ≤ t ∧ t ≤ 100) (h : BoundOf b k t m) : 0 ≤ m ∧ m ≤ 51003 := by
  refine ⟨h.low, ?_⟩
  by_cases c : 0 < m
  · have h1 := beh_half hb ht m
    have h2 := beh_half hb ht (-m)
    rcases h.hit c with z | z <;> omega
  · omega
theorem bound_less {b k t m : Int} (h : BoundOf b k t m) (x : Int) (hx : m < (x.natAbs : Int)) : ((beh b k t x).natAbs : Int) < (x.natAbs : Int) := by
  have q := h.all _ hx
  unfold grows at q
  have h0 := h.low
  by_cases c : 0 ≤ x
  · have e : ((x.natAbs : Nat) : Int) = x := by omega
    rw [e] at q ⊢
    omega
  · have e : (-((x.natAbs : Nat) : Int)) = x := by omega
    rw [e] at q
    omega
end R
namespace R
open PySem PySem.Spec PyProof.Rows L2
open PySem.W (Frag)
/-- (i, ring) as data -/
def pyIT (i : Int) (L : List Int) : PyData := .tuple [.int i, pyT L]
theorem can_pyIT (i : Int) (L : List Int) : (pyIT i L).canLay0 = true := by
  show (true && ((pyT L).canLay0 && true)) = true
  rw [can_pyT]; rfl
theorem dep_pyIT (i : Int) (L : List Int) : (pyIT i L).depth ≤ 64 := by
  have h := dep_pyT L
  show max 0 (max (pyT L).depth 0) + 1 ≤ 64
  omega
theorem dp_pyIT {K : Frag} {H : Hp} {p q : Addr} {i : Int} {L : List Int} (hp : SqT K H p [.int i, .ref q]) (hq : SqT K H q (L.map V.int)) : Dp K H (.ref p) (pyIT i L) := .tup hp (.cons (.int i) (.cons (dp_pyT hq) .nil))
theorem a_neIT {K : Frag} {H : Hp} {p q p' q' : Addr} {i : Int} {L : List Int} {Q : VK} (hp : SqT K H p [.int i, .ref q]) (hq : SqT K H q (L.map V.int)) (hp' : SqT K H p' [.int i, .ref q']) (hq' : SqT K H q' (L.map V.int)) (h : Q (.bl false) H) : rNeD K (.ref p) (.ref p') H Q :=
  a_neD (dp_pyIT hp hq) (dp_pyIT hp' hq') (can_pyIT i L) (dep_pyIT i L) h
/-- the rows' data -/
def pyTs (Ls : List (List Int)) : PyData := .list (Ls.map pyT)
theorem shaped_pyT (L : List Int) : SeqAt.shaped (pyT L) = true := shaped_of (can_pyT L) (Nat.le_trans (dep_pyT L) (by decide))
theorem can_pyTs (Ls : List (List Int)) : (pyTs Ls).canLay0 = true := canAll_map can_pyT Ls
theorem dep_pyTs (Ls : List (List Int)) : (pyTs Ls).depth ≤ 64 := by
  have h := depthAll_map (f := pyT) (n := 1) dep_pyT Ls
  show PyData.depthAll (Ls.map pyT) + 1 ≤ 64
  omega
theorem dp_pyTs {K : Frag} {H : Hp} {p : Addr} {ps : List (Addr × List Int)} (hp : SqL K H p (refs ps)) (hr : ∀ q ∈ ps, SqT K H q.1 (q.2.map V.int)) : Dp K H (.ref p) (pyTs (ps.map (·.2))) := by
  refine .lst hp ?_
  clear hp
  induction ps with
  | nil => exact .nil
  | cons q ps ih => exact .cons (dp_pyT (hr q List.mem_cons_self)) (ih fun x hx => hr x (List.mem_cons_of_mem _ hx))
theorem a_inTs {K : Frag} {H : Hp} {p q : Addr} {ps : List (Addr × List Int)} {L : List Int} {Q : VK} (hq : SqT K H q (L.map V.int)) (hp : SqL K H p (refs ps)) (hr : ∀ q ∈ ps, SqT K H q.1 (q.2.map V.int)) (hm : L ∈ ps.map (·.2)) (h : Q (.bl true) H) : rInD K (.ref q) (.ref p) H Q := by
  have key : ∀ Ls : List (List Int), L ∈ Ls → Dp K H (.ref p) (pyTs Ls) → rInD K (.ref q) (.ref p) H Q := fun Ls hm hd => by
    refine ⟨pyT L, Ls.map pyT, dp_pyT hq, hd, shaped_pyT L, shaped_of (can_pyTs _) (dep_pyTs _), ?_⟩
    have e : ((Ls.map pyT).any fun z => PyData.eqv z (pyT L)) = true := List.any_eq_true.mpr ⟨pyT L, List.mem_map.mpr ⟨L, hm, rfl⟩, SeqAt.eqv_refl _ (can_pyT L)⟩
    rw [e]; exact h
  exact key _ hm (dp_pyTs hp hr)
/-- the first place ahead of i with p, as a value -/
def FstV (p : Nat → Bool) (i : Nat) (v : V) : Prop := (v = .non ∧ ∀ j, j < i → p j = false) ∨ ∃ j : Nat, v = .int j ∧ j < i ∧ p j = true ∧ ∀ x, x < j → p x = false
theorem FstV.one {p : Nat → Bool} {i : Nat} {v v' : V} (h : FstV p i v) (h' : FstV p i v') : v = v' := by
  rcases h with ⟨rfl, h⟩ | ⟨j, rfl, h1, h2, h3⟩ <;> rcases h' with ⟨rfl, h'⟩ | ⟨j', rfl, h1', h2', h3'⟩
  · rfl
  · rw [h j' h1'] at h2'; cases h2'
  · rw [h' j h1] at h2; cases h2
  · have e : j = j' := by
      rcases Nat.lt_trichotomy j j' with c | c | c
      · rw [h3' j c] at h2; cases h2
      · exact c
      · rw [h3 j' c] at h2'; cases h2'
    rw [e]
end R
namespace R
/-- is the i-th number as small -/
def smallN (F : Int → Int) (n low : Int) (i : Nat) : Bool := decide (((itr F n i).natAbs : Int) ≤ low)
end R
namespace R
open PySem PyProof.Rows L2
theorem units65 {k : Nat} {A : Around} (r : Room k A) : A.units + 65 < cLine := by have := r.un; omega
end R
namespace R
theorem RingOf.head {F : Int → Int} {n x : Int} {L : List Int} (h : RingOf F n L) (hx : L[0]? = some x) : (∃ p, WayOf F x p 0) ∧ RingOf F x L := by
  obtain ⟨m, p, r, rfl, hn⟩ := h
  rw [itrL_at r.pos] at hx
  obtain rfl : m = x := Option.some.inj hx
  exact ⟨⟨p, r.pos, r.back, r.dis⟩, m, p, r, rfl, itrL_mem.mpr ⟨0, r.pos, rfl⟩⟩
theorem itr_40 {F : Int → Int} (h : ∀ n, (F n).natAbs ≤ n.natAbs / 2 + 25501) {n : Int} (hn : -(10 ^ 40) ≤ n ∧ n ≤ 10 ^ 40) (i : Nat) : -(10 ^ 40) ≤ itr F n i ∧ itr F n i ≤ 10 ^ 40 := by
  cases i with
  | zero => exact hn
  | succ i =>
    have q := itr_near h n (i + 1)
    have e : n.natAbs / 2 ^ (i + 1) ≤ n.natAbs / 2 := Nat.div_le_div_left (by rw [Nat.pow_succ]; have := Nat.pow_pos (n := i) (show 0 < 2 by decide); omega) (by decide)
    omega
end R

/-! ## sorted(d), the keys of d tuples of ints -/
namespace R
open PySem PySem.Spec PyProof.Rows L2
open PySem.W (Frag EachIs AllAlike Sortable list_sort_data dataLe)
section
variable {prog : Program} {w : World} {d : Addr} {o : Obj} {es : Array DictEntry} {ep : Nat}
/-- the keys of a dict as a source of items -/
theorem src_keys (hs : (d == sysModules) = false) (hx : o.ExactDict) (hdat : o.data = .dict es ep) : PySem.W.KdlSrc prog w "dict" d d es.size (fun i v => ∃ en, es[i]? = some en ∧ v = en.key) (fun h => h.get? d = some o) where
  type := fun _ hm => ⟨o, hm, hx.1⟩
  there := fun _ hm => ⟨Heap.lt_size hm, Heap.lt_size hm⟩
  keep := fun _ _ hm hk => hk d (.inl rfl) o hm
  notList := by decide
  notTuple := by decide
  hint := fun _ _ _ _ hm hq => PySem.W.kdl_hint_dict ⟨o, hm, hx.1⟩ hq
  iter := fun A s hh hm => by
    have ne : d ≠ s.heap.objs.size := Nat.ne_of_lt (Heap.lt_size hm)
    refine ⟨{ cls := .type "dict_keyiterator", data := .fields #[.ref d, .int 0 0, .int es.size 0, .int ep 0] }, fun i h => h.IsKeyIter s.heap.objs.size d i es.size ep ∧ h.get? d = some o, fun E Q q => iter_keys hs hm hx hdat q, ?_, ⟨⟨_, Heap.get?_push_size _ rfl, rfl, rfl⟩, Heap.get?_push_of_some _ hm⟩⟩
    refine ⟨fun b hb => by simp at hb; simp [hb], fun _ _ _ st hk => ⟨st.1.at fun o e => hk s.heap.objs.size (by simp) o e, hk d (by simp) _ st.2⟩, fun i s' Q E hi st hQ => ?_, fun s' Q E st hQ => ?_, fun _ _ _ _ st hQ => wpAny_pyIter_keyiter st.1 hQ⟩
    · have hen : es[i]? = some es[i] := Array.getElem?_eq_getElem hi
      refine next_key_item st.1 st.2 hdat rfl hen fun h' st' sb => ?_
      refine hQ _ h' s'.toks ⟨_, hen, rfl⟩ ⟨st', (sb.2 _ ne).trans st.2⟩ fun b o hb e => ?_
      exact (sb.2 b (fun z => hb (by simp [z]))).trans e
    · refine next_key_end hh st.1 st.2 hdat rfl (Nat.le_refl _) fun h' eb => ?_
      exact hQ h' s'.toks fun b o hb e => eb b o (fun z => hb (by simp [z])) e
end
theorem reads_ints {h : Heap} : ∀ {L : List Int} {us : List Value} {as : List Addr}, ReadsAll h us (L.map .int) as → as = []
  | [], _, _, r => by cases r; rfl
  | x :: L, _, _, r => by
    cases r with
    | cons r1 r2 =>
      cases r1
      rw [reads_ints r2]; rfl
theorem reads_T {h : Heap} {v : Value} {q : Addr × List Int} {as : List Addr} (r : Reads h v (encT q) as) : as = [] := by
  have r : Reads h v (.tuple (q.2.map .int)) as := r
  cases r with
  | tuple _ _ _ r4 => exact reads_ints r4
/-- keys that are tuples of ints -/
def keyL (L : List Int) : List Key := L.map Sum.inl
theorem keyL_V (L : List Int) : (keyL L).map kV = L.map V.int := by
  unfold keyL
  rw [List.map_map]; rfl
theorem kt_rows {H : Hp} : ∀ {kvs : List (List Key × V)} {xs : List (List Key × Addr × Value)} {Ls : List (List Int)}, KT H kvs xs → kvs.map (·.1) = Ls.map keyL → ∃ ps : List (Addr × List Int), ps.map (·.2) = Ls ∧ ps.map (·.1) = xs.map (·.2.1) ∧ ∀ q ∈ ps, H q.1 = some (.tup (q.2.map V.int))
  | [], _, Ls, h, e => by
    cases h
    cases Ls with
    | nil => exact ⟨[], rfl, rfl, fun q hq => by simp at hq⟩
    | cons x l => simp at e
  | p :: kvs, _, Ls, h, e => by
    cases h with
    | cons h1 h2 =>
      cases Ls with
      | nil => simp at e
      | cons L Ls =>
        rw [List.map_cons, List.map_cons] at e
        injection e with e1 e2
        obtain ⟨ps, a1, a2, a3⟩ := kt_rows h2 e2
        obtain ⟨b1, b2, _⟩ := h1
        rw [e1, keyL_V] at b2
        refine ⟨(_, L) :: ps, by rw [List.map_cons, a1], by rw [List.map_cons, List.map_cons, a2], fun q hq => ?_⟩
        rcases List.mem_cons.mp hq with rfl | hq
        · exact b2
        · exact a3 q hq
def rSortedTD (K : Frag) : List V → Hp → VK → Prop := fun vs H Q => ∃ (a : Addr) (kvs : List (List Key × V)) (Ls : List (List Int)), vs = [.ref a] ∧ Rd H a (.dT kvs) ∧ kvs.map (·.1) = Ls.map keyL ∧ (∀ L ∈ Ls, L ≠ []) ∧
  ∀ (ps : List (Addr × List Int)) (p : Addr), ps.map (·.2) = Ls → (∀ q ∈ ps, H q.1 = some (.tup (q.2.map V.int))) → H p = none → Q (.ref p) (upd H p (.lst (refs (ps.mergeSort leT))))
theorem cr_sortedTD {X : Cx} (hc : X.calm = true) (hu : X.A.units + 64 < cLine) : CallR X (.builtin "sorted") (rSortedTD X.K) := by
  intro pins s σ H vs us Q I r h
  obtain ⟨a, kvs, Ls, rfl, hd, hks, hne, q⟩ := h
  obtain ⟨u, rfl, ru⟩ := vals1 r
  obtain rfl : u = Value.ref a := ru
  obtain ⟨z, lo, xs, kt, dd⟩ := dt_rd I.hok hd
  obtain ⟨ps, e1, e2, e3⟩ := kt_rows kt hks
  obtain ⟨o, es, ep, ho, hx, hdat, hes, _, _⟩ := dd
  have hl : es.size = ps.length := by
    have a1 := congrArg List.length hes
    have a2 := congrArg List.length e2
    rw [Array.length_toList, List.length_map] at a1
    rw [List.length_map, List.length_map] at a2
    omega
  have hz : ps.length ≤ sizeLine := by
    have a1 := congrArg List.length hks
    have a2 := congrArg List.length e1
    rw [List.length_map, List.length_map] at a1
    rw [List.length_map] at a2
    omega
  have hkey : ∀ (i : Nat) (en : DictEntry), es[i]? = some en → ∃ p, ps[i]? = some p ∧ en.key = .ref p.1 := fun i en hen => by
    rw [← Array.getElem?_toList, hes, List.getElem?_map] at hen
    obtain ⟨x, hx1, rfl⟩ := Option.map_eq_some_iff.mp hen
    have b := congrArg (fun l => l[i]?) e2
    simp only [List.getElem?_map, hx1] at b
    obtain ⟨p, hp, ep⟩ := Option.map_eq_some_iff.mp b
    exact ⟨p, hp, by rw [ep]; rfl⟩
  refine Calls.call_function_entry PyProof.Rows.kind_sorted PyProof.Rows.plain_sorted PyProof.Rows.entry_sorted (PyProof.Rows.args_sorted1 _) ?_
  unfold Builtin.«sorted»
  refine wpAny_bind (m := checkCount "sorted" 1 1 _) (wpAny_pure ?_)
  refine wpAny_bind (PySem.W.kdu_collect (A := X.A.in1) (src_keys lo hx hdat) (I.ok.hd hc) ho (by rw [hl]; exact hz) fun h' tk acc hk hacc => ?_)
  have eacc : acc.toList = ps.map fun p => Value.ref p.1 := by
    refine List.ext_getElem? fun i => ?_
    rw [Array.getElem?_toList, List.getElem?_map]
    cases c : acc[i]? with
    | none =>
      have c2 := Array.getElem?_eq_none_iff.mp c
      rw [List.getElem?_eq_none (by rw [← hl, ← hacc.1]; exact c2)]; rfl
    | some v =>
      obtain ⟨en, h1, rfl⟩ := hacc.2 i v c
      obtain ⟨p, h2, h3⟩ := hkey i en h1
      rw [h2, h3]; rfl
  have I1 : Inv X pins σ H { s with heap := h', toks := tk } := I.kept hk
  rw [eacc]
  refine wpAny_bind (wpAny_newList ?_ (by rw [List.length_map]; exact hz))
  have hoL : (h'.push (seqObj "list" (ps.map fun p => Value.ref p.1).toArray 0)).get? h'.objs.size = some (seqObj "list" (ps.map fun p => Value.ref p.1).toArray 0) := Heap.get?_push_size _ rfl
  show wpAny _ _ _ _ _ { s with heap := h'.push (seqObj "list" (ps.map fun p => Value.ref p.1).toArray 0), toks := tk }
  refine wpAny_bind (wpAny_holding ?_)
  refine list_sort_data (s := { s with heap := h'.push (seqObj "list" (ps.map fun p => Value.ref p.1).toArray 0), toks := tk }) (R := isRef) (enc := encT) (bs := ps) hoL (each_refs fun _ _ => rfl) (each_refs fun x hx' => ?_) (alike_T ps) (sortable_T fun x hx' => hne x.2 (by rw [← e1]; exact List.mem_map.mpr ⟨x, hx', rfl⟩)) hz (fun b _ => ?_) fun out hlen eo => ?_
  · obtain ⟨as, rd⟩ := Dp.reads I1 (encT x) (.ref x.1) (.ref x.1) (.tup (.inl (.inl (e3 x hx'))) (dp_ints _)) rfl
    obtain rfl := reads_T rd
    exact ⟨[], PyProof.Rows.Reads.keeps (fun _ _ e => Heap.get?_push_of_some _ e) rd, by simp⟩
  · have := depth_T b
    show X.A.units + 1 + 1 + (encT b).depth < cLine
    omega
  · rw [dataLe_T] at eo
    obtain rfl := each_isRef eo
    obtain ⟨e', he'⟩ := PyProof.Rows.sortedHeap_at (vs := ps.map fun p => Value.ref p.1) (out := ((ps.mergeSort leT).map fun q => Value.ref q.1).toArray) hoL
    refine wpAny_pure ⟨_, rfl, .ref h'.objs.size, upd H h'.objs.size (.lst (refs (ps.mergeSort leT))), I1.laid (t' := tk) (fun b u e => ?_) (Nat.le_refl _) ⟨?_, _, e', refs_vals _, he'⟩, rfl, q ps _ e1 e3 (I1.hok.fresh (Nat.le_refl _))⟩
    · have hb : b < h'.objs.size := Heap.lt_size e
      rw [PyProof.Rows.sortedHeap_old (Nat.ne_of_lt hb) (by rw [size_push']; exact Nat.lt_succ_of_lt hb)]
      exact Heap.get?_push_of_some _ e
    · rw [show (refs (ps.mergeSort leT)).length = ps.length by unfold refs; rw [List.length_map, List.length_mergeSort]]
      exact hz
end R
namespace R
open PySem PySem.Spec PyProof.Rows L2
open PySem.W (Frag)
/-! a dict whose keys are tuples of ints, all values True -/
def entL (L : List Int) : List Key × V := (keyL L, .bl true)
def TDS (Ls : List (List Int)) : HO := .dT (Ls.map entL)
theorem keyL_inj : ∀ {a b : List Int}, keyL a = keyL b → a = b
  | [], [], _ => rfl
  | [], _ :: _, e => by simp [keyL] at e
  | _ :: _, [], e => by simp [keyL] at e
  | x :: xs, y :: ys, e => by
    have e : (Sum.inl x : Key) :: keyL xs = Sum.inl y :: keyL ys := e
    injection e with e1 e2
    rw [keyL_inj e2, Sum.inl.inj e1]
theorem put_entL {Ls : List (List Int)} {L : List Int} (h : L ∉ Ls) : putK (Ls.map entL) (keyL L) (.bl true) = (Ls ++ [L]).map entL := by
  have z : (Ls.map entL).any (fun kv => decide (kv.1 = keyL L)) = false := by
    rw [List.any_eq_false]
    intro x hx e
    obtain ⟨M, hM, rfl⟩ := List.mem_map.mp hx
    have e := of_decide_eq_true e
    exact h (keyL_inj e ▸ hM)
  unfold putK
  rw [if_neg (by rw [z]; decide), List.map_append]
  rfl
theorem entL_keys (Ls : List (List Int)) : (Ls.map entL).map (·.1) = Ls.map keyL := by rw [List.map_map]; rfl
section
variable {B H : Hp} {Lw : List (Addr × HO)} {a b : Addr} {Ls : List (List Int)} {L : List Int}
/-- d[ring] = True, a new key -/
theorem a_putTD (O : Own B Lw H) (i : Nat) (hi : Lw[i]? = some (a, TDS Ls)) (hb : H b = some (.tup (L.map V.int))) (hn : L ∉ Ls) (hl : Ls.length ≤ 1000000) (P : Hp → Prop) (h : ∀ H', Own B (Lw.set i (a, TDS (Ls ++ [L]))) H' → P H') : ∃ c H4, V.ref a = .ref c ∧ DPut H c (.ref b) (.bl true) H4 ∧ P H4 := by
  refine ⟨a, _, rfl, DPut.t (kvs := Ls.map entL) (k := keyL L) (O.get i hi) (by rw [keyL_V]; exact hb) (Nat.lt_of_le_of_lt (show (Ls.map entL).length ≤ 1000000 by rw [List.length_map]; exact hl) (by decide)), ?_⟩
  rw [put_entL hn]
  exact h _ (O.put i hi)
end
end R

local macro_rules | `(tactic| walk_at "s") => `(tactic| first
  | with_reducible refine R.a_seq ?_ | with_reducible refine R.a_asg ?_ | with_reducible refine R.a_gname ?_ | ((with_reducible refine' R.a_var ?h1 ?h2); (case h1 => rfl)) | with_reducible refine R.a_c ?_
  | with_reducible refine R.a_op ?_ | with_reducible refine R.a_un ?_ | with_reducible refine R.a_neg ?_ | with_reducible refine R.a_drop ?_ | with_reducible refine R.a_ret ?_ | with_reducible refine R.a_retN ?_
  | with_reducible refine R.a_test ?_ | with_reducible refine R.a_tB ?_ | with_reducible refine R.a_bk ?_ | with_reducible refine R.a_and ?_ | with_reducible refine R.a_or ?_ | with_reducible refine R.a_not ?_
  | with_reducible refine R.a_andV ?_ | with_reducible refine R.a_orV ?_ | with_reducible refine R.a_notV ?_ | with_reducible refine R.a_bv ?_ | with_reducible refine R.a_ifE ?_
  | with_reducible refine R.a_nil ?_ | with_reducible refine R.a_cons ?_ | with_reducible refine R.a_tup ?_ | with_reducible refine R.a_lst ?_ | with_reducible refine R.a_cb ?_ | with_reducible refine R.a_call ?_ | with_reducible refine R.a_chain ?_
  | with_reducible refine R.a_sl ?_ | with_reducible refine R.a_npart ?_ | with_reducible refine R.a_part ?_ | with_reducible refine R.a_ik ?_ | with_reducible refine R.a_gsub ?_ | with_reducible refine R.a_bm ?_ | with_reducible refine R.a_bm0 ?_ | with_reducible refine R.a_par ?_ | with_reducible refine R.a_par2 ?_
  | with_reducible refine R.a_for ?_ | with_reducible refine R.a_rev ?_ | with_reducible refine R.a_iL ?_ | with_reducible refine R.a_iT ?_ | with_reducible refine R.a_enum ?_ | with_reducible refine R.a_lc ?_ | with_reducible refine R.a_rng1 ?_ | with_reducible refine R.a_rng2 ?_ | with_reducible refine R.a_next ?_ | with_reducible refine R.a_yes ?_ | with_reducible refine R.a_gcons ?_ | with_reducible refine R.a_gnil ?_
  | ((with_reducible refine R.a_rng1' ?h1 ?h2 ?h3); (case h1 => omega); (case h2 => omega)) | ((with_reducible refine R.a_rng2' ?h1 ?h2); (case h1 => omega))
  | with_reducible refine R.a_I0 ?_ | with_reducible refine R.a_eqI ?_ | with_reducible refine R.a_neI ?_ | with_reducible refine R.a_isN1 ?_ | with_reducible refine R.a_notN1 ?_
  | ((with_reducible refine R.a_isN0 ?h1 ?h2); (case h1 => (intro z; cases z))) | ((with_reducible refine R.a_notN0 ?h1 ?h2); (case h1 => (intro z; cases z)))
  | with_reducible refine R.a_isiI ?_ | with_reducible refine R.a_isiB ?_
  | ((with_reducible refine R.a_I ?h1 ?h2); (case h1 => first | omega | exact R.mx_l (by omega) (by omega) | exact R.mx_r (by omega) (by omega) | exact R.divW (by omega) (by omega)))
  | with_reducible refine R.a_tt ?_ | with_reducible refine R.a_ff ?_ | with_reducible refine R.a_nt ?_ | with_reducible refine R.a_nf ?_)
-- a test whose answer is known
local macro_rules | `(tactic| walk_at "k") => `(tactic| first
  | ((with_reducible refine R.a_itT ?h1 ?h2); (case h1 => first | assumption | omega)) | ((with_reducible refine R.a_itF ?h1 ?h2); (case h1 => first | assumption | omega))
  | ((with_reducible refine R.a_niT ?h1 ?h2); (case h1 => first | assumption | omega)) | ((with_reducible refine R.a_niF ?h1 ?h2); (case h1 => first | assumption | omega)))
local macro_rules | `(tactic| walk_at "k") => `(tactic| first
  | ((with_reducible refine R.a_cT ?h1 ?h2 ?h3); (case h1 => first | assumption | omega); (case h2 => first | assumption | omega))
  | ((with_reducible refine R.a_ncT ?h1 ?h2 ?h3); (case h1 => first | assumption | omega); (case h2 => first | assumption | omega)))
local macro_rules | `(tactic| walk_at "c") => `(tactic| fail)
local macro_rules | `(tactic| walk_at "sq") => `(tactic| first | assumption | (refine' R.Own.sq ?o 0 ?e; (case o => assumption); (case e => rfl)) | (refine' R.Own.sq ?o 1 ?e; (case o => assumption); (case e => rfl)) | (refine' R.Own.sq ?o 2 ?e; (case o => assumption); (case e => rfl)) | (refine' R.Own.sq ?o 3 ?e; (case o => assumption); (case e => rfl)) | (refine' R.Own.sq ?o 4 ?e; (case o => assumption); (case e => rfl)) | (refine' R.Own.sq ?o 5 ?e; (case o => assumption); (case e => rfl)) | (refine' R.Own.sq ?o 6 ?e; (case o => assumption); (case e => rfl)) | (refine' R.Own.sq ?o 7 ?e; (case o => assumption); (case e => rfl)) | (refine' R.Own.sq ?o 8 ?e; (case o => assumption); (case e => rfl)) | (refine' R.Own.sq ?o 9 ?e; (case o => assumption); (case e => rfl)) | (refine' R.Own.seq ?o ?e; (case o => assumption); (case e => assumption)))
local macro_rules | `(tactic| walk_at "tq") => `(tactic| first | assumption | (refine' R.Own.tq ?o 0 ?e; (case o => assumption); (case e => rfl)) | (refine' R.Own.tq ?o 1 ?e; (case o => assumption); (case e => rfl)) | (refine' R.Own.tq ?o 2 ?e; (case o => assumption); (case e => rfl)) | (refine' R.Own.tq ?o 3 ?e; (case o => assumption); (case e => rfl)) | (refine' R.Own.tq ?o 4 ?e; (case o => assumption); (case e => rfl)) | (refine' R.Own.tq ?o 5 ?e; (case o => assumption); (case e => rfl)) | (refine' R.Own.tq ?o 6 ?e; (case o => assumption); (case e => rfl)) | (refine' R.Own.tq ?o 7 ?e; (case o => assumption); (case e => rfl)) | (refine' R.Own.tq ?o 8 ?e; (case o => assumption); (case e => rfl)) | (refine' R.Own.tq ?o 9 ?e; (case o => assumption); (case e => rfl)) | (refine' R.Own.tup ?o ?e; (case o => assumption); (case e => assumption)))
local macro_rules | `(tactic| walk_at "c") => `(tactic| first
  | ((with_reducible refine' R.a_ixL ?s ?a ?q); (case s => walk_at "sq"); (case a => rfl))
  | ((with_reducible refine' R.a_ixT ?s ?a ?q); (case s => walk_at "tq"); (case a => rfl))
  | ((with_reducible refine' R.a_gtup ?k1 ?k2 ?k3); (case k1 => walk_at "tq"); (case k2 => rfl))
  | with_reducible refine R.a_int1 ?_ | with_reducible refine R.a_abs ?_
  | ((with_reducible refine' R.a_len ?k1 ?k2); (case k1 => first | (refine Or.inl ?_; walk_at "sq") | (refine Or.inr ?_; walk_at "tq")))
  | ((with_reducible refine' R.a_pow (k := 18) ?n ?k ?m ?q); (case n => rfl); (case k => decide); (case m => decide)) | ((with_reducible refine' R.a_pow (k := 40) ?n ?k ?m ?q); (case n => rfl); (case k => decide); (case m => decide)) | ((with_reducible refine' R.a_pow (k := 6) ?n ?k ?m ?q); (case n => rfl); (case k => decide); (case m => decide)) | ((with_reducible refine' R.a_pow (k := 20) ?n ?k ?m ?q); (case n => rfl); (case k => decide); (case m => decide)) | ((with_reducible refine' R.a_pow (k := 30) ?n ?k ?m ?q); (case n => rfl); (case k => decide); (case m => decide)) | ((with_reducible refine' R.a_pow (k := 39) ?n ?k ?m ?q); (case n => rfl); (case k => decide); (case m => decide))
  | ((with_reducible refine' R.a_setL ?k1 0 ?k2 ?k3 ?k4); (case k1 => assumption); (case k2 => rfl); (case k3 => rfl); intro H' O') | ((with_reducible refine' R.a_setL ?k1 1 ?k2 ?k3 ?k4); (case k1 => assumption); (case k2 => rfl); (case k3 => rfl); intro H' O') | ((with_reducible refine' R.a_setL ?k1 2 ?k2 ?k3 ?k4); (case k1 => assumption); (case k2 => rfl); (case k3 => rfl); intro H' O') | ((with_reducible refine' R.a_setL ?k1 3 ?k2 ?k3 ?k4); (case k1 => assumption); (case k2 => rfl); (case k3 => rfl); intro H' O') | ((with_reducible refine' R.a_setL ?k1 4 ?k2 ?k3 ?k4); (case k1 => assumption); (case k2 => rfl); (case k3 => rfl); intro H' O') | ((with_reducible refine' R.a_setL ?k1 5 ?k2 ?k3 ?k4); (case k1 => assumption); (case k2 => rfl); (case k3 => rfl); intro H' O') | ((with_reducible refine' R.a_setL ?k1 6 ?k2 ?k3 ?k4); (case k1 => assumption); (case k2 => rfl); (case k3 => rfl); intro H' O') | ((with_reducible refine' R.a_setL ?k1 7 ?k2 ?k3 ?k4); (case k1 => assumption); (case k2 => rfl); (case k3 => rfl); intro H' O') | ((with_reducible refine' R.a_setL ?k1 8 ?k2 ?k3 ?k4); (case k1 => assumption); (case k2 => rfl); (case k3 => rfl); intro H' O') | ((with_reducible refine' R.a_setL ?k1 9 ?k2 ?k3 ?k4); (case k1 => assumption); (case k2 => rfl); (case k3 => rfl); intro H' O'))
local macro_rules | `(tactic| walk_at "app") => `(tactic| first | ((with_reducible refine' R.a_app ?k1 0 ?k2 ?k3 ?k4); (case k1 => assumption); (case k2 => rfl)) | ((with_reducible refine' R.a_app ?k1 1 ?k2 ?k3 ?k4); (case k1 => assumption); (case k2 => rfl)) | ((with_reducible refine' R.a_app ?k1 2 ?k2 ?k3 ?k4); (case k1 => assumption); (case k2 => rfl)) | ((with_reducible refine' R.a_app ?k1 3 ?k2 ?k3 ?k4); (case k1 => assumption); (case k2 => rfl)) | ((with_reducible refine' R.a_app ?k1 4 ?k2 ?k3 ?k4); (case k1 => assumption); (case k2 => rfl)) | ((with_reducible refine' R.a_app ?k1 5 ?k2 ?k3 ?k4); (case k1 => assumption); (case k2 => rfl)))
local macro_rules | `(tactic| walk_at "mkL") => `(tactic| ((with_reducible refine' R.a_mkL ?k1 ?k2 ?k3); (case k1 => assumption); (case k2 => first | exact Nat.zero_le _ | (simp only [List.length_cons, List.length_nil, List.length_map]; omega))))
local macro_rules | `(tactic| walk_at "mkT") => `(tactic| ((with_reducible refine' R.a_mkT ?k1 ?k2 ?k3); (case k1 => assumption); (case k2 => first | exact Nat.zero_le _ | (simp only [List.length_cons, List.length_nil, List.length_map]; omega))))
local macro_rules | `(tactic| walk_at "h") => `(tactic| repeat (first | walk_at "s" | walk_at "k" | walk_at "c"))
local macro_rules | `(tactic| walk_at "g") => `(tactic| repeat (first | walk_at "s" | walk_at "k" | walk_at "c" | with_reducible refine R.a_if ?_))
local macro_rules | `(tactic| walk_at "s") => `(tactic| first | with_reducible refine R.a_fld ?_ | with_reducible refine R.a_sfld ?_ | with_reducible refine R.a_make ?_)
local macro_rules | `(tactic| walk_at "c") => `(tactic| ((with_reducible refine' R.a_glst ?k1 ?k2 ?k3); (case k1 => walk_at "sq"); (case k2 => rfl)))
local macro_rules | `(tactic| walk_at "s") => `(tactic| first | with_reducible refine R.a_neB ?_ | with_reducible refine R.a_eqB ?_ | with_reducible refine R.a_neO ?_ | with_reducible refine R.a_isO1 ?_ | with_reducible refine R.a_isO0 ?_ | with_reducible refine R.a_notO1 ?_ | with_reducible refine R.a_notO0 ?_)
local macro_rules | `(tactic| walk_at "s") => `(tactic| first | with_reducible refine R.a_par3 ?_ | with_reducible refine R.a_par33 ?_)
local macro_rules | `(tactic| walk_at "s") => `(tactic| first | with_reducible refine R.a_rng3 ?_ | ((with_reducible refine R.a_rngD ?h1 ?h2); (case h1 => omega)))

namespace Toy
open PySem PySem.Spec PyProof.Rows L2 R
open PySem.W (Frag)
def topS (i : Nat) : Stmt := PySem.Challenge.pw_resttricks_k13_whole_rings.main.body.getD i (.Pass ⟨0, 0, 0, 0⟩)
abbrev s_is_from : Stmt := (topS 9)
abbrev N_is_from : List Str := ["value", "low", "high"]
abbrev p_is_from : List Str := ["value", "low", "high"]
theorem sc_is_from : FnScope N_is_from p_is_from (defScope s_is_from) := ⟨rfl, rfl, rfl, by decide +kernel, rfl, by decide +kernel, by decide +kernel⟩
abbrev s_need_base : Stmt := (topS 10)
abbrev N_need_base : List Str := ["base"]
abbrev p_need_base : List Str := ["base"]
theorem sc_need_base : FnScope N_need_base p_need_base (defScope s_need_base) := ⟨rfl, rfl, rfl, by decide +kernel, rfl, by decide +kernel, by decide +kernel⟩
abbrev s_power : Stmt := (topS 11)
abbrev N_power : List Str := ["base", "many", "found", "turn"]
abbrev p_power : List Str := ["base", "many"]
theorem sc_power : FnScope N_power p_power (defScope s_power) := ⟨rfl, rfl, rfl, by decide +kernel, rfl, by decide +kernel, by decide +kernel⟩
abbrev s_Trick_init : Stmt := (inClass (topS 15) 0)
abbrev N_Trick_init : List Str := ["self", "base", "take", "times"]
abbrev p_Trick_init : List Str := ["self", "base", "take", "times"]
theorem sc_Trick_init : FnScope N_Trick_init p_Trick_init (defScope s_Trick_init) := ⟨rfl, rfl, rfl, by decide +kernel, rfl, by decide +kernel, by decide +kernel⟩
abbrev s_need_trick : Stmt := (topS 16)
abbrev N_need_trick : List Str := ["trick"]
abbrev p_need_trick : List Str := ["trick"]
theorem sc_need_trick : FnScope N_need_trick p_need_trick (defScope s_need_trick) := ⟨rfl, rfl, rfl, by decide +kernel, rfl, by decide +kernel, by decide +kernel⟩
abbrev s_behind : Stmt := (topS 17)
abbrev N_behind : List Str := ["trick", "n"]
abbrev p_behind : List Str := ["trick", "n"]
theorem sc_behind : FnScope N_behind p_behind (defScope s_behind) := ⟨rfl, rfl, rfl, by decide +kernel, rfl, by decide +kernel, by decide +kernel⟩
abbrev s_wide_of : Stmt := (topS 19)
abbrev N_wide_of : List Str := ["trick"]
abbrev p_wide_of : List Str := ["trick"]
theorem sc_wide_of : FnScope N_wide_of p_wide_of (defScope s_wide_of) := ⟨rfl, rfl, rfl, by decide +kernel, rfl, by decide +kernel, by decide +kernel⟩
abbrev s_bound_by : Stmt := (topS 20)
abbrev N_bound_by : List Str := ["trick", "size"]
abbrev p_bound_by : List Str := ["trick"]
theorem sc_bound_by : FnScope N_bound_by p_bound_by (defScope s_bound_by) := ⟨rfl, rfl, rfl, by decide +kernel, rfl, by decide +kernel, by decide +kernel⟩
abbrev s_ring_from : Stmt := (topS 21)
abbrev N_ring_from : List Str := ["trick", "n", "found", "here", "at"]
abbrev p_ring_from : List Str := ["trick", "n"]
theorem sc_ring_from : FnScope N_ring_from p_ring_from (defScope s_ring_from) := ⟨rfl, rfl, rfl, by decide +kernel, rfl, by decide +kernel, by decide +kernel⟩
abbrev s_rings : Stmt := (topS 22)
abbrev N_rings : List Str := ["trick", "most", "seen", "found", "begun", "way", "here"]
abbrev p_rings : List Str := ["trick"]
theorem sc_rings : FnScope N_rings p_rings (defScope s_rings) := ⟨rfl, rfl, rfl, by decide +kernel, rfl, by decide +kernel, by decide +kernel⟩
abbrev s_law_taken : Stmt := (topS 24)
abbrev N_law_taken : List Str := ["_law_row", "_law_many", "_law_found", "_law_cell"]
abbrev p_law_taken : List Str := ["_law_row", "_law_many"]
theorem sc_law_taken : FnScope N_law_taken p_law_taken (defScope s_law_taken) := ⟨rfl, rfl, rfl, by decide +kernel, rfl, by decide +kernel, by decide +kernel⟩
abbrev s_law_power : Stmt := (topS 25)
abbrev N_law_power : List Str := ["_law_base", "_law_many", "_law_found", "_law_turn"]
abbrev p_law_power : List Str := ["_law_base", "_law_many"]
theorem sc_law_power : FnScope N_law_power p_law_power (defScope s_law_power) := ⟨rfl, rfl, rfl, by decide +kernel, rfl, by decide +kernel, by decide +kernel⟩
abbrev s_law_trick : Stmt := (topS 26)
abbrev N_law_trick : List Str := ["_law_row", "_law_small", "_law_base", "_law_take", "_law_times", "_law_d", "_law_some", "_law_one"]
abbrev p_law_trick : List Str := ["_law_row", "_law_small"]
theorem sc_law_trick : FnScope N_law_trick p_law_trick (defScope s_law_trick) := ⟨rfl, rfl, rfl, by decide +kernel, rfl, by decide +kernel, by decide +kernel⟩
abbrev s_law_behind : Stmt := (topS 27)
abbrev N_law_behind : List Str := ["_law_told", "_law_n", "_law_base", "_law_take", "_law_times", "_law_block", "_law_rest"]
abbrev p_law_behind : List Str := ["_law_told", "_law_n"]
theorem sc_law_behind : FnScope N_law_behind p_law_behind (defScope s_law_behind) := ⟨rfl, rfl, rfl, by decide +kernel, rfl, by decide +kernel, by decide +kernel⟩
abbrev s_law_ring : Stmt := (topS 28)
abbrev N_law_ring : List Str := ["_law_told", "_law_n", "_law_seen", "_law_line", "_law_some", "_law_at"]
abbrev p_law_ring : List Str := ["_law_told", "_law_n"]
theorem sc_law_ring : FnScope N_law_ring p_law_ring (defScope s_law_ring) := ⟨rfl, rfl, rfl, by decide +kernel, rfl, by decide +kernel, by decide +kernel⟩
abbrev s_law : Stmt := (topS 29)
abbrev N_law : List Str := ["_law_script", "_law_line", "_law_told", "_law_trick_here", "_law_block", "_law_safe", "_law_due", "_law_known", "_law_begun", "_law_n", "_law_way", "_law_again"]
abbrev p_law : List Str := ["_law_script"]
theorem sc_law : FnScope N_law p_law (defScope s_law) := ⟨rfl, rfl, rfl, by decide +kernel, rfl, by decide +kernel, by decide +kernel⟩
structure Adr where
  f_is_from : Addr
  d_is_from : FuncData
  f_need_base : Addr
  d_need_base : FuncData
  f_power : Addr
  d_power : FuncData
  f_Trick_init : Addr
  d_Trick_init : FuncData
  f_need_trick : Addr
  d_need_trick : FuncData
  f_behind : Addr
  d_behind : FuncData
  f_wide_of : Addr
  d_wide_of : FuncData
  f_bound_by : Addr
  d_bound_by : FuncData
  f_ring_from : Addr
  d_ring_from : FuncData
  f_rings : Addr
  d_rings : FuncData
  f_law_taken : Addr
  d_law_taken : FuncData
  f_law_power : Addr
  d_law_power : FuncData
  f_law_trick : Addr
  d_law_trick : FuncData
  f_law_behind : Addr
  d_law_behind : FuncData
  f_law_ring : Addr
  d_law_ring : FuncData
  f_law : Addr
  d_law : FuncData
  c_Trick : Addr
structure Txt (K : Frag) (mg : Str → Option Value) (Z : Adr) : Prop where
  F_is_from : Fun K "is_from" "is_from" s_is_from Z.f_is_from Z.d_is_from
  b_is_from : Binds K Z.d_is_from p_is_from []
  g_is_from : mg "is_from" = some (.ref Z.f_is_from)
  F_need_base : Fun K "need_base" "need_base" s_need_base Z.f_need_base Z.d_need_base
  b_need_base : Binds K Z.d_need_base p_need_base []
  g_need_base : mg "need_base" = some (.ref Z.f_need_base)
  F_power : Fun K "power" "power" s_power Z.f_power Z.d_power
  b_power : Binds K Z.d_power p_power []
  g_power : mg "power" = some (.ref Z.f_power)
  F_Trick_init : Fun K "__init__" "Trick.__init__" s_Trick_init Z.f_Trick_init Z.d_Trick_init
  b_Trick_init : Binds K Z.d_Trick_init p_Trick_init []
  F_need_trick : Fun K "need_trick" "need_trick" s_need_trick Z.f_need_trick Z.d_need_trick
  b_need_trick : Binds K Z.d_need_trick p_need_trick []
  g_need_trick : mg "need_trick" = some (.ref Z.f_need_trick)
  F_behind : Fun K "behind" "behind" s_behind Z.f_behind Z.d_behind
  b_behind : Binds K Z.d_behind p_behind []
  g_behind : mg "behind" = some (.ref Z.f_behind)
  F_wide_of : Fun K "wide_of" "wide_of" s_wide_of Z.f_wide_of Z.d_wide_of
  b_wide_of : Binds K Z.d_wide_of p_wide_of []
  g_wide_of : mg "wide_of" = some (.ref Z.f_wide_of)
  F_bound_by : Fun K "bound_by" "bound_by" s_bound_by Z.f_bound_by Z.d_bound_by
  b_bound_by : Binds K Z.d_bound_by p_bound_by []
  g_bound_by : mg "bound_by" = some (.ref Z.f_bound_by)
  F_ring_from : Fun K "ring_from" "ring_from" s_ring_from Z.f_ring_from Z.d_ring_from
  b_ring_from : Binds K Z.d_ring_from p_ring_from []
  g_ring_from : mg "ring_from" = some (.ref Z.f_ring_from)
  F_rings : Fun K "rings" "rings" s_rings Z.f_rings Z.d_rings
  b_rings : Binds K Z.d_rings p_rings []
  g_rings : mg "rings" = some (.ref Z.f_rings)
  F_law_taken : Fun K "_law_taken" "_law_taken" s_law_taken Z.f_law_taken Z.d_law_taken
  b_law_taken : Binds K Z.d_law_taken p_law_taken []
  g_law_taken : mg "_law_taken" = some (.ref Z.f_law_taken)
  F_law_power : Fun K "_law_power" "_law_power" s_law_power Z.f_law_power Z.d_law_power
  b_law_power : Binds K Z.d_law_power p_law_power []
  g_law_power : mg "_law_power" = some (.ref Z.f_law_power)
  F_law_trick : Fun K "_law_trick" "_law_trick" s_law_trick Z.f_law_trick Z.d_law_trick
  b_law_trick : Binds K Z.d_law_trick p_law_trick []
  g_law_trick : mg "_law_trick" = some (.ref Z.f_law_trick)
  F_law_behind : Fun K "_law_behind" "_law_behind" s_law_behind Z.f_law_behind Z.d_law_behind
  b_law_behind : Binds K Z.d_law_behind p_law_behind []
  g_law_behind : mg "_law_behind" = some (.ref Z.f_law_behind)
  F_law_ring : Fun K "_law_ring" "_law_ring" s_law_ring Z.f_law_ring Z.d_law_ring
  b_law_ring : Binds K Z.d_law_ring p_law_ring []
  g_law_ring : mg "_law_ring" = some (.ref Z.f_law_ring)
  F_law : Fun K "law" "law" s_law Z.f_law Z.d_law
  b_law : Binds K Z.d_law p_law []
  g_law : mg "law" = some (.ref Z.f_law)
  g_Trick : mg "Trick" = some (.ref Z.c_Trick)
  cl_Trick : Cls K Z.c_Trick
  is_Trick : C8.InsC K Z.c_Trick
  M_Trick : Mk K Z.c_Trick Z.f_Trick_init
  nf_Trick_basis : NoAttr K Z.c_Trick "basis"
  nf_Trick_many : NoAttr K Z.c_Trick "many"
  nf_Trick_factor : NoAttr K Z.c_Trick "factor"
  nf_Trick_block : NoAttr K Z.c_Trick "block"
  v_LEAST_BASE : ∃ t, mg "LEAST_BASE" = some (.int (2) t)
  v_MOST_BASE : ∃ t, mg "MOST_BASE" = some (.int (16) t)
  v_MOST_TAKE : ∃ t, mg "MOST_TAKE" = some (.int (2) t)
  v_MOST_TIMES : ∃ t, mg "MOST_TIMES" = some (.int (100) t)
  n_isinstance : mg "isinstance" = none
  n_int : mg "int" = none
  n_bool : mg "bool" = none
  n_range : mg "range" = none
  n_abs : mg "abs" = none
  n_tuple : mg "tuple" = none
  n_min : mg "min" = none
  n_sorted : mg "sorted" = none
  n_len : mg "len" = none
section
variable {P : Program} {w : World} {K : Frag} {mg : Str → Option Value} {base : Heap} {Z : Adr}

/-! ### is_from -/
def sp_is_from (K : Frag) : Sp := fun vs H Q _ => ∃ i lo hi : Int, vs = [.int i, .int lo, .int hi] ∧ Q (.bl (decide (lo ≤ i) && decide (i ≤ hi))) H
theorem use_is_from {K : Frag} {i lo hi : Int} {H : Hp} {Q : VK} {E : XK} (h : Q (.bl (decide (lo ≤ i) && decide (i ≤ hi))) H) : sp_is_from K ([.int i, .int lo, .int hi] ++ []) H Q E := ⟨_, _, _, rfl, h⟩
theorem ok_is_from (T : Txt K mg Z) : FnOk P w K mg base CX0 1 Z.f_is_from Z.d_is_from p_is_from (sp_is_from K) := by
  refine T.F_is_from.ok sc_is_from (fun vs H Q E h => ?_) (fun cdv A outer s H vs Q E hr h => ?_)
  · obtain ⟨_, _, _, rfl, _⟩ := h; rfl
  · obtain ⟨i, lo, hi, rfl, h⟩ := h
    refine ⟨_, (pss_one (ps_ret (pe_and (pe_callB (r := rIsi K) call_isi (by rfl) T.n_isinstance boot_isinstance (pa_cons (pv 0) (pa_cons (pe_bltn (v := .ty "int") (by rfl) T.n_int boot_int rfl) pa_nil))) (pe_and (pe_not (pe_callB (r := rIsi K) call_isi (by rfl) T.n_isinstance boot_isinstance (pa_cons (pv 0) (pa_cons (pe_bltn (v := .ty "bool") (by rfl) T.n_bool boot_bool rfl) pa_nil)))) (pe_one (pe_chain op_le op_le (pv 1) (pv 0) (pv 2))))))), ?_⟩
    walk_at "g"
    refine a_it2 (fun c => ?_) (fun c => ?_)
    · walk_at "g"
      rw [decide_eq_true c, Bool.true_and] at h; exact h
    · rw [decide_eq_false c] at h; exact h
-- @USE
local macro_rules | `(tactic| walk_at "c") => `(tactic| with_reducible refine use_is_from ?_)

/-! ### need_base -/
def sp_need_base : Sp := fun vs H Q _ => ∃ b : Int, vs = [.int b] ∧ 2 ≤ b ∧ b ≤ 16 ∧ Q .non H
theorem use_need_base {b : Int} {H : Hp} {Q : VK} {E : XK} (h1 : 2 ≤ b) (h2 : b ≤ 16) (h : Q .non H) : sp_need_base ([.int b] ++ []) H Q E := ⟨_, rfl, h1, h2, h⟩
theorem ok_need_base (T : Txt K mg Z) : FnOk P w K mg base CX0 2 Z.f_need_base Z.d_need_base p_need_base sp_need_base := by
  refine T.F_need_base.ok sc_need_base (fun vs H Q E h => ?_) (fun cdv A outer s H vs Q E hr h => ?_)
  · obtain ⟨_, rfl, _⟩ := h; rfl
  · obtain ⟨b, rfl, h1, h2, h⟩ := h
    refine ⟨_, (pss_one (ps_if (pt_not (pt_val (pe_call (ok_is_from T) (hr.mono (by decide)) rfl T.g_is_from T.F_is_from.kp T.b_is_from .nil pass0 (pa_cons (pv 0) (pa_cons (pe_globI rfl T.v_LEAST_BASE) (pa_cons (pe_globI rfl T.v_MOST_BASE) pa_nil)))))) (pss_one ps_never) pss_nil)), ?_⟩
    walk_at "g"
    exact h
-- @USE
local macro_rules | `(tactic| walk_at "c") => `(tactic| ((with_reducible refine use_need_base ?h1 ?h2 ?h3); (case h1 => omega); (case h2 => omega)))

/-! ### power -/
def sp_power : Sp := fun vs H Q _ => ∃ b m : Int, vs = [.int b, .int m] ∧ -(2 ^ 62) ≤ m ∧ m < 2 ^ 62 ∧ -(2 ^ 64) < b ∧ b < 2 ^ 64 ∧ Q (.int (b ^ m.toNat)) H
theorem use_power {b m : Int} {H : Hp} {Q : VK} {E : XK} (h1 : -(2 ^ 62) ≤ m ∧ m < 2 ^ 62 ∧ -(2 ^ 64) < b ∧ b < 2 ^ 64) (h : Q (.int (b ^ m.toNat)) H) : sp_power ([.int b, .int m] ++ []) H Q E := ⟨_, _, rfl, h1.1, h1.2.1, h1.2.2.1, h1.2.2.2, h⟩
theorem ok_power (T : Txt K mg Z) : FnOk P w K mg base CX0 1 Z.f_power Z.d_power p_power sp_power := by
  refine T.F_power.ok sc_power (fun vs H Q E h => ?_) (fun cdv A outer s H vs Q E hr h => ?_)
  · obtain ⟨_, _, rfl, _⟩ := h; rfl
  · obtain ⟨b, m, rfl, h1, h2, h3, h4, h⟩ := h
    refine ⟨_, (pss_cons (ps_set (i := 2) sc_power.nd rfl (Or.inl rfl) pe_int)
    (pss_cons (ps_for PassesOwn.never rfl (pi_range1 rfl T.n_range (pa_cons (pv 1) pa_nil)) (pg_name (i := 3) sc_power.nd rfl (Or.inl rfl))
    (pss_one (ps_set (i := 2) sc_power.nd rfl (Or.inl rfl) (pe_op op_mulX (pv 2) (pv 0)))))
    (pss_one (ps_ret (pv 2))))), ?_⟩
    walk_at "g"
    refine for_range (fun i σ H' => H' = H ∧ ∃ v, σ = [some (.int b), some (.int m), some (.int (b ^ i)), v]) ⟨rfl, none, by rw [Int.pow_zero]; rfl⟩ ?_ ?_
    · rintro i σ H' hi ⟨rfl, v, rfl⟩
      walk_at "g"
      exact ⟨rfl, _, by rw [Int.pow_succ]; rfl⟩
    · rintro σ H' ⟨rfl, v, rfl⟩
      walk_at "g"
      exact h
-- @USE
local macro_rules | `(tactic| walk_at "c") => `(tactic| ((with_reducible refine use_power ?h1 ?h2); (case h1 => omega)))

/-! ### Trick_init -/
/-- the fields of a trick -/
def trickF (b k t : Int) : List (Str × V) := [("basis", .int b), ("many", .int k), ("factor", .int t), ("block", .int (b ^ k.toNat))]
def TrickOk (b k t : Int) : Prop := (2 ≤ b ∧ b ≤ 16) ∧ (1 ≤ k ∧ k ≤ 2) ∧ -100 ≤ t ∧ t ≤ 100
def TrickAt (Z : Adr) (H : Hp) (a : Addr) (b k t : Int) : Prop := TrickOk b k t ∧ ∃ dx, H a = some (.ins Z.c_Trick dx (trickF b k t))
theorem TrickAt.up {B H : Hp} {Lw : List (Addr × HO)} {a : Addr} {b k t : Int} (O : Own B Lw H) (h : TrickAt Z B a b k t) : TrickAt Z H a b k t := by
  obtain ⟨h1, dx, h2⟩ := h
  exact ⟨h1, dx, O.st _ _ h2⟩
theorem TrickAt.same {B H : Hp} {a : Addr} {b k t : Int} (s : Same B H) (h : TrickAt Z B a b k t) : TrickAt Z H a b k t := by
  obtain ⟨h1, dx, h2⟩ := h
  exact ⟨h1, dx, s _ _ h2⟩
theorem block_small {b k : Int} (hb : 2 ≤ b ∧ b ≤ 16) (hk : 1 ≤ k ∧ k ≤ 2) : 2 ≤ b ^ k.toNat ∧ b ^ k.toNat ≤ 256 := by
  have e : k = 1 ∨ k = 2 := by omega
  rcases e with rfl | rfl
  · have z : b ^ (1 : Int).toNat = b := by rw [show (1 : Int).toNat = 1 from rfl, Int.pow_succ, Int.pow_zero, Int.one_mul]
    rw [z]; omega
  · have z : b ^ (2 : Int).toNat = b * b := by rw [show (2 : Int).toNat = 2 from rfl, Int.pow_succ, Int.pow_succ, Int.pow_zero, Int.one_mul]
    rw [z]
    have h1 : b * 2 ≤ b * b := Int.mul_le_mul_of_nonneg_left hb.1 (by omega)
    have h2 : b * b ≤ 16 * 16 := Int.mul_le_mul hb.2 hb.2 (by omega) (by omega)
    omega
theorem get_block {H : Hp} {a : Addr} {b k t : Int} {Q : VK} (T : Txt K mg Z) (h : TrickAt Z H a b k t) (q : Q (.int (b ^ k.toNat)) H) : rFld K "block" (.ref a) H Q := by
  obtain ⟨_, dx, h⟩ := h
  refine a_getF h T.cl_Trick T.nf_Trick_block ?_ q
  unfold trickF
  rw [lk_ne (by decide +kernel), lk_ne (by decide +kernel), lk_ne (by decide +kernel), lk_eq]
theorem get_factor {H : Hp} {a : Addr} {b k t : Int} {Q : VK} (T : Txt K mg Z) (h : TrickAt Z H a b k t) (q : Q (.int t) H) : rFld K "factor" (.ref a) H Q := by
  obtain ⟨_, dx, h⟩ := h
  refine a_getF h T.cl_Trick T.nf_Trick_factor ?_ q
  unfold trickF
  rw [lk_ne (by decide +kernel), lk_ne (by decide +kernel), lk_eq]
theorem get_many {H : Hp} {a : Addr} {b k t : Int} {Q : VK} (T : Txt K mg Z) (h : TrickAt Z H a b k t) (q : Q (.int k) H) : rFld K "many" (.ref a) H Q := by
  obtain ⟨_, dx, h⟩ := h
  refine a_getF h T.cl_Trick T.nf_Trick_many ?_ q
  unfold trickF
  rw [lk_ne (by decide +kernel), lk_eq]
theorem get_basis {H : Hp} {a : Addr} {b k t : Int} {Q : VK} (T : Txt K mg Z) (h : TrickAt Z H a b k t) (q : Q (.int b) H) : rFld K "basis" (.ref a) H Q := by
  obtain ⟨_, dx, h⟩ := h
  refine a_getF h T.cl_Trick T.nf_Trick_basis ?_ q
  unfold trickF
  rw [lk_eq]
def sp_Trick_init (C : Addr) : Sp := fun vs H Q _ => ∃ (x dx : Addr) (b k t : Int), vs = [.ref x, .int b, .int k, .int t] ∧ H x = some (.ins C dx []) ∧ TrickOk b k t ∧
  ∀ H', (∀ q v, q ≠ x → H q = some v → H' q = some v) → H' x = some (.ins C dx (trickF b k t)) → Q .non H'
theorem use_Trick {B H : Hp} {Lw : List (Addr × HO)} {b k t : Int} {Q : VK} {E : XK} (O : Own B Lw H) (hk : TrickOk b k t) (h : ∀ x B' H', B x = none → Same B B' → Own B' Lw H' → TrickAt Z B' x b k t → Q (.ref x) H') : NewI Z.c_Trick (sp_Trick_init Z.c_Trick) [] E [.int b, .int k, .int t] H Q := by
  intro x dx hx hdx ne
  have O1 := Own.new (o := .own x) O hdx
  have hx1 : upd H dx (.own x) x = none := by rw [upd_ne ne.symm]; exact hx
  have O2 := Own.new (o := .ins Z.c_Trick dx []) O1 hx1
  refine ⟨x, dx, b, k, t, rfl, upd_same, hk, fun H' k1 h1 => ⟨rfl, ?_⟩⟩
  have O3 : Own B ((x, .ins Z.c_Trick dx (trickF b k t)) :: (dx, .own x) :: Lw) H' := O2.but 0 rfl k1 h1
  exact h x _ H' (O.free hx) (O3.swap.fixS.trans O3.swap.fix.fixS) O3.swap.fix.fix ⟨hk, dx, upd_same⟩
theorem ok_Trick_init (T : Txt K mg Z) : FnOk P w K mg base CX0 3 Z.f_Trick_init Z.d_Trick_init p_Trick_init (sp_Trick_init Z.c_Trick) := by
  refine T.F_Trick_init.ok sc_Trick_init (fun vs H Q E h => ?_) (fun cdv A outer s H vs Q E hr h => ?_)
  · obtain ⟨_, _, _, _, _, rfl, _⟩ := h; rfl
  · obtain ⟨x, dx, b, k, t, rfl, hx, ⟨⟨hb1, hb2⟩, ⟨hk1, hk2⟩, ht1, ht2⟩, h⟩ := h
    have O := Own.refl1 hx
    refine ⟨_, (pss_cons (ps_expr (pe_call (ok_need_base T) (hr.mono (by decide)) rfl T.g_need_base T.F_need_base.kp T.b_need_base .nil pass0 (pa_cons (pv 1) pa_nil)))
    (pss_cons (ps_if (pt_not (pt_val (pe_call (ok_is_from T) (hr.mono (by decide)) rfl T.g_is_from T.F_is_from.kp T.b_is_from .nil pass0 (pa_cons (pv 2) (pa_cons pe_int (pa_cons (pe_globI rfl T.v_MOST_TAKE) pa_nil)))))) (pss_one ps_never) pss_nil)
    (pss_cons (ps_if (pt_not (pt_val (pe_call (ok_is_from T) (hr.mono (by decide)) rfl T.g_is_from T.F_is_from.kp T.b_is_from .nil pass0 (pa_cons (pv 3) (pa_cons (pe_un un_neg (pe_globI rfl T.v_MOST_TIMES)) (pa_cons (pe_globI rfl T.v_MOST_TIMES) pa_nil)))))) (pss_one ps_never) pss_nil)
    (pss_cons (ps_fld (pv 0) (pv 1) rfl)
    (pss_cons (ps_fld (pv 0) (pv 2) rfl)
    (pss_cons (ps_fld (pv 0) (pv 3) rfl)
    (pss_one (ps_fld (pv 0) (pe_call (ok_power T) (hr.mono (by decide)) rfl T.g_power T.F_power.kp T.b_power .nil pass0 (pa_cons (pv 1) (pa_cons (pv 2) pa_nil))) rfl)))))))), ?_⟩
    have n1 : ¬ ("basis" : Str) = "many" := by decide +kernel
    have n2 : ¬ ("basis" : Str) = "factor" := by decide +kernel
    have n3 : ¬ ("many" : Str) = "factor" := by decide +kernel
    have n4 : ¬ ("basis" : Str) = "block" := by decide +kernel
    have n5 : ¬ ("many" : Str) = "block" := by decide +kernel
    have n6 : ¬ ("factor" : Str) = "block" := by decide +kernel
    walk_at "g"
    refine a_setF O 0 rfl T.cl_Trick T.nf_Trick_basis (Nat.lt_of_le_of_lt (Nat.le_refl 0) (by decide)) (fun H1 O => ?_)
    simp only [List.set, put_nil] at O
    walk_at "g"
    refine a_setF O 0 rfl T.cl_Trick T.nf_Trick_many (Nat.lt_of_le_of_lt (Nat.le_refl 1) (by decide)) (fun H2 O => ?_)
    simp only [List.set, put_ne n1, put_nil] at O
    walk_at "g"
    refine a_setF O 0 rfl T.cl_Trick T.nf_Trick_factor (Nat.lt_of_le_of_lt (Nat.le_refl 2) (by decide)) (fun H3 O => ?_)
    simp only [List.set, put_ne n2, put_ne n3, put_nil] at O
    walk_at "g"
    refine a_setF O 0 rfl T.cl_Trick T.nf_Trick_block (Nat.lt_of_le_of_lt (Nat.le_refl 3) (by decide)) (fun H4 O => ?_)
    simp only [List.set, put_ne n4, put_ne n5, put_ne n6, put_nil] at O
    exact h _ (Own.toBut O) (O.get 0 rfl)
-- @USE
local macro_rules | `(tactic| walk_at "tr") => `(tactic| first | assumption | (refine' TrickAt.up ?k1 ?k2; (case k1 => assumption); (case k2 => assumption)))
local macro_rules | `(tactic| walk_at "c") => `(tactic| first
  | ((with_reducible refine' get_block ?k1 ?k2 ?k3); (case k1 => assumption); (case k2 => walk_at "tr"))
  | ((with_reducible refine' get_factor ?k1 ?k2 ?k3); (case k1 => assumption); (case k2 => walk_at "tr"))
  | ((with_reducible refine' get_many ?k1 ?k2 ?k3); (case k1 => assumption); (case k2 => walk_at "tr"))
  | ((with_reducible refine' get_basis ?k1 ?k2 ?k3); (case k1 => assumption); (case k2 => walk_at "tr")))

/-! ### need_trick -/
-- @NEEDS Trick_init
def sp_need_trick (Z : Adr) : Sp := fun vs H Q _ => ∃ (a : Addr) (b k t : Int), vs = [.ref a] ∧ TrickAt Z H a b k t ∧ Q .non H
theorem use_need_trick {a : Addr} {b k t : Int} {H : Hp} {Q : VK} {E : XK} (h1 : TrickAt Z H a b k t) (h : Q .non H) : sp_need_trick Z ([.ref a] ++ []) H Q E := ⟨a, b, k, t, rfl, h1, h⟩
theorem ok_need_trick (T : Txt K mg Z) : FnOk P w K mg base CX0 1 Z.f_need_trick Z.d_need_trick p_need_trick (sp_need_trick Z) := by
  refine T.F_need_trick.ok sc_need_trick (fun vs H Q E h => ?_) (fun cdv A outer s H vs Q E hr h => ?_)
  · obtain ⟨_, _, _, _, rfl, _⟩ := h; rfl
  · obtain ⟨a, b, k, t, rfl, ha, h⟩ := h
    refine ⟨_, (pss_one (ps_if (pt_not (pt_val (pe_callB (r := rIsi K) call_isi (by rfl) T.n_isinstance boot_isinstance (pa_cons (pv 0) (pa_cons (pe_glob rfl T.g_Trick (v := .ref Z.c_Trick) rfl) pa_nil))))) (pss_one ps_never) pss_nil)), ?_⟩
    walk_at "g"
    obtain ⟨_, dx, h2⟩ := ha
    refine ⟨_, _, _, _, true, rfl, .own _, .base (.ins h2 T.is_Trick.cl T.is_Trick.ha T.is_Trick.hn T.is_Trick.htk T.is_Trick.hm), T.is_Trick.me, ?_⟩
    walk_at "g"
    exact h
-- @USE
local macro_rules | `(tactic| walk_at "c") => `(tactic| ((with_reducible refine' use_need_trick ?k1 ?k2); (case k1 => walk_at "tr")))

/-! ### behind -/
-- @NEEDS Trick_init
def sp_behind (Z : Adr) : Sp := fun vs H Q _ => ∃ (a : Addr) (b k t n : Int), vs = [.ref a, .int n] ∧ TrickAt Z H a b k t ∧ Q (.int (beh b k t n)) H
theorem use_behind {a : Addr} {b k t n : Int} {H : Hp} {Q : VK} {E : XK} (h1 : TrickAt Z H a b k t) (h : Q (.int (beh b k t n)) H) : sp_behind Z ([.ref a, .int n] ++ []) H Q E := ⟨a, b, k, t, n, rfl, h1, h⟩
theorem ok_behind (T : Txt K mg Z) : FnOk P w K mg base CX0 1 Z.f_behind Z.d_behind p_behind (sp_behind Z) := by
  refine T.F_behind.ok sc_behind (fun vs H Q E h => ?_) (fun cdv A outer s H vs Q E hr h => ?_)
  · obtain ⟨_, _, _, _, _, rfl, _⟩ := h; rfl
  · obtain ⟨a, b, k, t, n, rfl, ha, h⟩ := h
    have bs := block_small ha.1.1 ha.1.2.1
    have ht := ha.1.2.2
    unfold beh at h
    refine ⟨_, (pss_one (ps_ret (pe_op op_add (pe_op op_fdivW (pv 1) (pe_fld (pv 0) rfl)) (pe_op op_mulX (pe_fld (pv 0) rfl) (pe_op op_mod (pv 1) (pe_fld (pv 0) rfl)))))), ?_⟩
    walk_at "g"
    exact h
-- @USE
local macro_rules | `(tactic| walk_at "c") => `(tactic| ((with_reducible refine' use_behind ?k1 ?k2); (case k1 => walk_at "tr")))

/-! ### wide_of -/
-- @NEEDS Trick_init
def sp_wide_of (Z : Adr) : Sp := fun vs H Q _ => ∃ (a : Addr) (b k t : Int), vs = [.ref a] ∧ TrickAt Z H a b k t ∧ Q (.int (wideN b k t)) H
theorem use_wide_of {a : Addr} {b k t : Int} {H : Hp} {Q : VK} {E : XK} (h1 : TrickAt Z H a b k t) (h : Q (.int (wideN b k t)) H) : sp_wide_of Z ([.ref a] ++ []) H Q E := ⟨a, b, k, t, rfl, h1, h⟩
theorem ok_wide_of (T : Txt K mg Z) : FnOk P w K mg base CX0 1 Z.f_wide_of Z.d_wide_of p_wide_of (sp_wide_of Z) := by
  refine T.F_wide_of.ok sc_wide_of (fun vs H Q E h => ?_) (fun cdv A outer s H vs Q E hr h => ?_)
  · obtain ⟨_, _, _, _, rfl, _⟩ := h; rfl
  · obtain ⟨a, b, k, t, rfl, ha, h⟩ := h
    have bs := block_small ha.1.1 ha.1.2.1
    have ht := ha.1.2.2
    refine ⟨_, (pss_one (ps_ret (pe_op op_add (pe_op op_fdivW (pe_op op_mulX (pe_op op_add pe_int (pe_op op_mulX (pe_callB call_absR (by rfl) T.n_abs boot_abs (pa_cons (pe_fld (pv 0) rfl) pa_nil)) (pe_op op_sub (pe_fld (pv 0) rfl) pe_int))) (pe_fld (pv 0) rfl)) (pe_op op_sub (pe_fld (pv 0) rfl) pe_int)) pe_int))), ?_⟩
    walk_at "g"
    exact h
-- @USE
local macro_rules | `(tactic| walk_at "c") => `(tactic| ((with_reducible refine' use_wide_of ?k1 ?k2); (case k1 => walk_at "tr")))

/-! ### bound_by -/
-- @NEEDS Trick_init behind wide_of
def sp_bound_by (Z : Adr) : Sp := fun vs H Q _ => ∃ (a : Addr) (b k t : Int), vs = [.ref a] ∧ TrickAt Z H a b k t ∧ ∀ m, BoundOf b k t m → Q (.int m) H
theorem ok_bound_by (T : Txt K mg Z) : FnOk P w K mg base CX0 2 Z.f_bound_by Z.d_bound_by p_bound_by (sp_bound_by Z) := by
  refine T.F_bound_by.ok sc_bound_by (fun vs H Q E h => ?_) (fun cdv A outer s H vs Q E hr h => ?_)
  · obtain ⟨_, _, _, _, rfl, _⟩ := h; rfl
  · obtain ⟨a, b, k, t, rfl, ha, h⟩ := h
    have bs := block_small ha.1.1 ha.1.2.1
    have ht := ha.1.2.2
    have ws := wide_small (b := b) (k := k) bs ht
    refine ⟨_, (pss_cons (ps_for PassesOwn.never rfl (pi_range3 rfl T.n_range (pa_cons (pe_call (ok_wide_of T) (hr.mono (by decide)) rfl T.g_wide_of T.F_wide_of.kp T.b_wide_of .nil pass0 (pa_cons (pv 0) pa_nil)) (pa_cons pe_int (pa_cons (pe_un un_neg pe_int) pa_nil)))) (pg_name (i := 1) sc_bound_by.nd rfl (Or.inl rfl))
    (pss_one (ps_if (PW.pt (pw_or (pt_cmpR op_ge (pe_callB call_absR (by rfl) T.n_abs boot_abs (pa_cons (pe_call (ok_behind T) (hr.mono (by decide)) rfl T.g_behind T.F_behind.kp T.b_behind .nil pass0 (pa_cons (pv 0) (pa_cons (pv 1) pa_nil))) pa_nil)) (pv 1) (nomark _)) (pw_or1 (pt_cmpR op_ge (pe_callB call_absR (by rfl) T.n_abs boot_abs (pa_cons (pe_call (ok_behind T) (hr.mono (by decide)) rfl T.g_behind T.F_behind.kp T.b_behind .nil pass0 (pa_cons (pv 0) (pa_cons (pe_un un_neg (pv 1)) pa_nil))) pa_nil)) (pv 1) (nomark _))))) (pss_one (ps_ret (pv 1))) pss_nil)))
    (pss_one (ps_ret pe_int))), ?_⟩
    walk_at "g"
    refine for_rangeC (fun i σ H' => H' = H ∧ (∃ v, σ = [some (.ref a), v]) ∧ ∀ s, wideN b k t - i < s → ¬ grows b k t s) ⟨rfl, ⟨none, rfl⟩, fun s hs => grows_far bs.1 (by omega)⟩ ?_ ?_
    · rintro i σ H' hi ⟨rfl, ⟨v, rfl⟩, hno⟩
      walk_at "h"
      have e : wideN b k t + (i : Int) * -1 = wideN b k t - i := by omega
      rw [e]
      have go : ¬ grows b k t (wideN b k t - i) → ∀ s, wideN b k t - ((i + 1 : Nat) : Int) < s → ¬ grows b k t s := fun hn s hs => by
        by_cases z : s = wideN b k t - i
        · rw [z]; exact hn
        · exact hno s (by omega)
      have bo : grows b k t (wideN b k t - i) → BoundOf b k t (wideN b k t - i) := fun z => ⟨by omega, by omega, fun _ => z, fun s hs => hno s hs⟩
      generalize wideN b k t - i = m at *
      walk_at "g"
      refine a_it2 (fun c => ?_) (fun c => ?_)
      · walk_at "g"
        exact h _ (bo (.inl c))
      · walk_at "g"
        refine a_it2 (fun c2 => ?_) (fun c2 => ?_)
        · walk_at "g"
          exact h _ (bo (.inr c2))
        · walk_at "g"
          exact ⟨rfl, ⟨_, rfl⟩, go (fun z => z.elim c c2)⟩
    · rintro σ H' ⟨rfl, ⟨v, rfl⟩, hno⟩
      walk_at "g"
      exact h _ ⟨by omega, by omega, fun z => by omega, fun s hs => hno s (by omega)⟩

/-! ### ring_from -/
-- @NEEDS Trick_init behind
def sp_ring_from (K : Frag) (Z : Adr) : Sp := fun vs H Q _ => ∃ (a : Addr) (b k t n : Int) (p : Nat), vs = [.ref a, .int n] ∧ TrickAt Z H a b k t ∧ (0 < p ∧ p ≤ 102147) ∧ itr (beh b k t) n p = n ∧ (∀ i j, i < j → j < p → itr (beh b k t) n i ≠ itr (beh b k t) n j) ∧
  ∀ (q : Addr) (L : List Int) (H' : Hp), Own H [(q, .tup (L.map V.int))] H' → L.length = p → RingOf (beh b k t) n L → Q (.ref q) H'
theorem ok_ring_from (T : Txt K mg Z) : FnOk P w K mg base CX0 2 Z.f_ring_from Z.d_ring_from p_ring_from (sp_ring_from K Z) := by
  refine T.F_ring_from.ok sc_ring_from (fun vs H Q E h => ?_) (fun cdv A outer s H vs Q E hr h => ?_)
  · obtain ⟨_, _, _, _, _, _, rfl, _⟩ := h; rfl
  · obtain ⟨a, b, k, t, n, p, rfl, ha, ⟨p0, p1⟩, back, dis, h⟩ := h
    have O := Own.refl H
    refine ⟨_, (pss_cons (ps_par (i := 2) (j := 3) (by rfl) sc_ring_from.nd rfl rfl (by decide) rfl rfl (pa_cons (pe_lst (pa_cons (pv 1) pa_nil)) (pa_cons (pe_call (ok_behind T) (hr.mono (by decide)) rfl T.g_behind T.F_behind.kp T.b_behind .nil pass0 (pa_cons (pv 0) (pa_cons (pv 1) pa_nil))) pa_nil)) (by rfl))
    (pss_cons (ps_while PassesOwn.never (pt_cmpR op_ne (pv 3) (pv 1) (nomark _))
    (pss_cons (ps_expr (pe_bm PySem.F.plainAttrs_list PySem.F.slot_list_append PySem.F.type_list_append mt_append (pv 2) (pa_cons (pv 3) pa_nil)))
    (pss_one (ps_set (i := 3) sc_ring_from.nd rfl (Or.inl rfl) (pe_call (ok_behind T) (hr.mono (by decide)) rfl T.g_behind T.F_behind.kp T.b_behind .nil pass0 (pa_cons (pv 0) (pa_cons (pv 3) pa_nil)))))))
    (pss_cons (ps_set (i := 4) sc_ring_from.nd rfl (Or.inl rfl) (pe_bm PySem.F.plainAttrs_list PySem.F.slot_list_index PySem.F.type_list_index mt_index (pv 2) (pa_cons (pe_callB (r := rMin K) (cr_min rfl) (by rfl) T.n_min boot_min (pa_cons (pv 2) pa_nil)) pa_nil)))
    (pss_one (ps_ret (pe_callTy (r := rTupOf K) call_tupR (by rfl) T.n_tuple boot_tuple (pa_cons (pe_op op_cat (pe_slice (r := rSlL K) sl_list (pv 2) (po_some (pv 4)) po_none) (pe_slice (r := rSlL K) sl_list (pv 2) po_none (po_some (pv 4)))) pa_nil))))))), ?_⟩
    walk_at "g"; walk_at "mkL"; intro q H1 hq O
    walk_at "g"
    refine a_while (fun m σ H' => ∃ (j : Nat) (v4 : Option V), σ = [some (.ref a), some (.int n), some (.ref q), some (.int (itr (beh b k t) n (j + 1))), v4] ∧ Own H [(q, .lst ((itrL (beh b k t) n (j + 1)).map V.int))] H' ∧ j < p ∧ j + m = p) ⟨p, 0, _, rfl, O, p0, by omega⟩ ?_
    clear O
    rintro m σ H' ⟨j, v4, rfl, O, jp, hm⟩
    walk_at "g"
    refine a_ni2 (fun c => ?_) (fun c => ?_)
    · have ej : j + 1 = p := by
        by_cases z : j + 1 < p
        · exact absurd c.symm (dis 0 (j + 1) (by omega) z)
        · omega
      rw [ej] at O
      clear c
      walk_at "g"
      refine ⟨.inl ⟨rfl, _, Own.sq O 0 rfl⟩, ?_⟩
      walk_at "g"
      refine ⟨q, itrL (beh b k t) n p, rfl, Own.sq O 0 rfl, by rw [itrL_len]; exact p0, fun mn hmn hle => ?_⟩
      obtain ⟨i, hi, rfl⟩ := itrL_mem.mp hmn
      walk_at "g"
      refine a_indexI (Own.sq O 0 rfl) (j := i) (itrL_at hi) (fun m' z hm' hz => ?_) ?_
      · rw [itrL_at (by omega)] at hz
        cases hz
        exact dis m' i hm' hi
      walk_at "g"
      refine a_slFrom (k := i) rfl O (Own.sq O 0 rfl) (fun l1 H2 hl1 O => ?_)
      walk_at "g"
      refine a_slTo (k := i) rfl O (Own.sq O 1 rfl) (fun l2 H3 hl2 O => ?_)
      walk_at "g"
      refine a_catM O (O.get 1 rfl) (O.get 0 rfl) (by rw [List.length_map, List.length_map, List.length_drop, List.length_take, itrL_len]; omega) (fun l3 H4 hl3 O => ?_)
      rw [← List.map_append] at O
      walk_at "g"
      refine a_tupL O (Own.sq O 0 rfl) (fun l4 H5 hl4 O => ?_)
      walk_at "g"
      refine h l4 _ H5 (O.less (.cons_cons _ (List.nil_sublist _))) ?_ (ring_turn hi back dis fun j hj => hle _ (itrL_mem.mpr ⟨j, hj, rfl⟩))
      rw [List.length_append, List.length_drop, List.length_take, itrL_len]
      omega
    · refine a_turn ?_
      walk_at "g"
      refine ⟨.inl ⟨rfl, _, Own.sq O 0 rfl⟩, ?_⟩
      walk_at "g"
      refine a_app O 0 rfl (by rw [List.length_map, itrL_len]; omega) (fun H4 O => ?_)
      simp only [List.set] at O
      walk_at "g"
      refine ⟨m - 1, by omega, j + 1, _, rfl, ?_, ?_, by omega⟩
      · rw [itrL_succ n (j + 1), List.map_append]
        exact O
      · by_cases e : j + 1 = p
        · rw [e] at c
          exact absurd back c
        · omega

/-! ### rings -/
-- @NEEDS Trick_init behind need_trick bound_by ring_from
/-- rows of ints as tuples that stand -/
def rowsT (ps : List (Addr × List Int)) (B : Hp) : Prop := ∀ q ∈ ps, B q.1 = some (.tup (q.2.map V.int))
theorem rowsT.same {ps : List (Addr × List Int)} {B B' : Hp} (h : rowsT ps B) (s : Same B B') : rowsT ps B' := fun q hq => s _ _ (h q hq)
def sp_rings (Z : Adr) : Sp := fun vs H Q _ => ∃ (a : Addr) (b k t : Int), vs = [.ref a] ∧ TrickAt Z H a b k t ∧
  ∀ (p : Addr) (ps : List (Addr × List Int)) (B H' : Hp), Same H B → Own B [(p, .lst (refs ps))] H' → rowsT ps B → AllRings (beh b k t) (ps.map (·.2)) → (ps.map (·.2)).Pairwise (· ≤ ·) → ps.length ≤ 102147 → Q (.ref p) H'
theorem ok_rings (T : Txt K mg Z) : FnOk P w K mg base CX0 3 Z.f_rings Z.d_rings p_rings (sp_rings Z) := by
  refine T.F_rings.ok sc_rings (fun vs H Q E h => ?_) (fun cdv A outer s H vs Q E hr h => ?_)
  · obtain ⟨_, _, _, _, rfl, _⟩ := h; rfl
  · obtain ⟨a, b, k, t, rfl, ha, h⟩ := h
    have bs := block_small ha.1.1 ha.1.2.1
    have half := beh_half bs ha.1.2.2
    have O := Own.refl H
    refine ⟨_, (pss_cons (ps_expr (pe_call (ok_need_trick T) (hr.mono (by decide)) rfl T.g_need_trick T.F_need_trick.kp T.b_need_trick .nil pass0 (pa_cons (pv 0) pa_nil)))
    (pss_cons (ps_par3 (i := 1) (j := 2) (l := 3) (by rfl) sc_rings.nd rfl rfl rfl (by decide) (by decide) (by decide) rfl rfl rfl (pa_cons (pe_call (ok_bound_by T) (hr.mono (by decide)) rfl T.g_bound_by T.F_bound_by.kp T.b_bound_by .nil pass0 (pa_cons (pv 0) pa_nil)) (pa_cons pe_dnewK (pa_cons (pe_lst pa_nil) pa_nil))) (by rfl))
    (pss_cons (ps_for PassesOwn.never rfl (pi_range2 rfl T.n_range (pa_cons (pe_un un_neg (pv 1)) (pa_cons (pe_op op_add (pv 1) pe_int) pa_nil))) (pg_name (i := 4) sc_rings.nd rfl (Or.inl rfl))
    (pss_cons (ps_par (i := 5) (j := 6) (by rfl) sc_rings.nd rfl rfl (by decide) rfl rfl (pa_cons pe_dnewK (pa_cons (pv 4) pa_nil)) (by rfl))
    (pss_cons (ps_while PassesOwn.never (PW.pt (pw_and (pt_cmp (pc_dnotin (hu_of hr) (pv 6) (pv 2))) (pw_and1 (pt_cmp (pc_dnotin (hu_of hr) (pv 6) (pv 5))))))
    (pss_cons (ps_dput (hu_of hr) (pv 5) (pv 6) pe_bl rfl)
    (pss_one (ps_set (i := 6) sc_rings.nd rfl (Or.inl rfl) (pe_call (ok_behind T) (hr.mono (by decide)) rfl T.g_behind T.F_behind.kp T.b_behind .nil pass0 (pa_cons (pv 0) (pa_cons (pv 6) pa_nil)))))))
    (pss_cons (ps_if (pt_cmp (pc_din (hu_of hr) (pv 6) (pv 5))) (pss_one (ps_expr (pe_bm PySem.F.plainAttrs_list PySem.F.slot_list_append PySem.F.type_list_append mt_append (pv 3) (pa_cons (pe_call (ok_ring_from T) (hr.mono (by decide)) rfl T.g_ring_from T.F_ring_from.kp T.b_ring_from .nil pass0 (pa_cons (pv 0) (pa_cons (pv 6) pa_nil))) pa_nil)))) pss_nil)
    (pss_one (ps_expr (pe_bm PySem.F.plainAttrs_dict PySem.F.slot_dict_update PySem.F.type_dict_update mt_update (pv 2) (pa_cons (pv 5) pa_nil))))))))
    (pss_one (ps_ret (pe_callB (r := rSortedTs K) (cr_sortedTs hr.units) (by rfl) T.n_sorted boot_sorted (pa_cons (pv 3) pa_nil))))))), ?_⟩
    walk_at "g"
    refine ⟨a, b, k, t, rfl, ha, fun most bo => ?_⟩
    walk_at "g"
    intro Sd hSd
    replace O := Own.new (o := .dK []) O hSd
    walk_at "g"; walk_at "mkL"; intro Fd H1 hFd O
    have bn := bound_near bs ha.1.2.2 bo
    walk_at "g"
    refine for_range (fun i σ H' => ∃ (B : Hp) (ps : List (Addr × List Int)) (S : List Int) (v4 v5 v6 : Option V), σ = [some (.ref a), some (.int most), some (.ref Sd), some (.ref Fd), v4, v5, v6] ∧ Same H B ∧ Own B [(Fd, .lst (refs ps)), (Sd, trueK S)] H' ∧ rowsT ps B ∧ RingsIn (beh b k t) S (ps.map (·.2)) ∧ (∀ x ∈ S, x.natAbs ≤ 51003) ∧ (∀ j : Nat, j < i → -most + (j : Int) ∈ S) ∧ ps.length ≤ i) ⟨H, [], [], _, _, _, rfl, Same.refl H, O, fun q hq => by simp at hq, RingsIn.none, fun x hx => by simp at hx, fun j hj => by omega, Nat.zero_le _⟩ ?_ ?_
    · clear O
      rintro i σ H' hi ⟨B, ps, S, v4, v5, v6, rfl, sB, O, rT, rI, near, front, few⟩
      walk_at "g"
      intro W hW
      replace O := Own.new (o := .dK []) O hW
      walk_at "g"
      have ha' : TrickAt Z B a b k t := ha.same sB
      have n0 : (-most + (i : Int)).natAbs ≤ 51003 := by omega
      generalize hbeg : -most + (i : Int) = n at *
      refine a_while (fun m σ H' => ∃ (j : Nat), σ = [some (.ref a), some (.int most), some (.ref Sd), some (.ref Fd), some (.int n), some (.ref W), some (.int (itr (beh b k t) n j))] ∧ Own B [(W, trueK (itrL (beh b k t) n j)), (Fd, .lst (refs ps)), (Sd, trueK S)] H' ∧ (∀ i i', i < i' → i' < j → itr (beh b k t) n i ≠ itr (beh b k t) n i') ∧ (∀ i, i < j → itr (beh b k t) n i ∉ S) ∧ j + m = 102148) ⟨102148, 0, rfl, O, fun i i' h1 h2 => by omega, fun i hi => by omega, rfl⟩ ?_
      clear O
      rintro m σ H' ⟨j, rfl, O, dis, out, hm⟩
      have short := way_short half (by omega) dis
      have nearW : ∀ x ∈ S ++ itrL (beh b k t) n j, x.natAbs ≤ 51003 := fun x hx => by
        rcases List.mem_append.mp hx with hx | hx
        · exact near x hx
        · obtain ⟨y, _, rfl⟩ := itrL_mem.mp hx
          exact itr_near1 half (Nat.le_refl _) n0 y
      have neWS : Sd ≠ W := fun e => by
        have nd := O.nd
        simp [e] at nd
      walk_at "g"
      refine a_dnin ?_
      walk_at "g"
      obtain ⟨o, hg, ho⟩ := has_K (.inl (O.get 2 rfl)) (itr (beh b k t) n j)
      refine ⟨Sd, o, rfl, hg, ?_⟩
      rw [ho, trueK_keys]
      walk_at "g"
      have keepS : ∀ H2 v5, Own B [(Fd, .lst (refs ps)), (Sd, trueK (S ++ itrL (beh b k t) n j))] H2 → itr (beh b k t) n j ∈ S → ∃ (B : Hp) (ps' : List (Addr × List Int)) (S' : List Int) (v4 v5' v6 : Option V), [some (V.ref a), some (.int most), some (.ref Sd), some (.ref Fd), some (.int n), v5, some (.int (itr (beh b k t) n j))] = [some (.ref a), some (.int most), some (.ref Sd), some (.ref Fd), v4, v5', v6] ∧ Same H B ∧ Own B [(Fd, .lst (refs ps')), (Sd, trueK S')] H2 ∧ rowsT ps' B ∧ RingsIn (beh b k t) S' (ps'.map (·.2)) ∧ (∀ x ∈ S', x.natAbs ≤ 51003) ∧ (∀ j : Nat, j < i + 1 → -most + (j : Int) ∈ S') ∧ ps'.length ≤ i + 1 := fun H2 v5 O c => by
        refine ⟨B, ps, _, _, _, _, rfl, sB, O, rT, rI.join dis out c, nearW, fun y hy => ?_, by omega⟩
        by_cases e : y = i
        · rw [e, hbeg]
          by_cases e0 : j = 0
          · subst e0; exact List.mem_append_left _ c
          · exact List.mem_append_right _ (itrL_mem.mpr ⟨0, by omega, rfl⟩)
        · exact List.mem_append_left _ (front y (by omega))
      have upd1 : ∀ {H2 : Hp} {Q : VK}, Own B [(W, trueK (itrL (beh b k t) n j)), (Fd, .lst (refs ps)), (Sd, trueK S)] H2 → (∀ H3, Own B [(W, trueK (itrL (beh b k t) n j)), (Fd, .lst (refs ps)), (Sd, trueK (S ++ itrL (beh b k t) n j))] H3 → Q .non H3) → rUpdate (.ref Sd) [.ref W] H2 Q := fun O q => by
        refine a_upd O 2 0 rfl rfl neWS ?_ ?_ (fun H3 O => q H3 ?_)
        · rw [← List.map_append, trueK_keys]
          exact rI.grow dis out
        · rw [List.length_map, List.length_map, itrL_len]
          have := few_near rI.nd near
          omega
        · rw [← List.map_append] at O
          exact O
      refine a_ni2 (fun c => ?_) (fun c => ?_)
      · walk_at "g"
        refine a_din ?_
        walk_at "g"
        obtain ⟨o2, hg2, ho2⟩ := has_K (.inl (O.get 0 rfl)) (itr (beh b k t) n j)
        refine ⟨W, o2, rfl, hg2, ?_⟩
        rw [ho2, trueK_keys]
        walk_at "g"
        refine a_itF (fun z => ?_) ?_
        · obtain ⟨y, hy, e⟩ := itrL_mem.mp z
          exact out y hy (e ▸ c)
        walk_at "g"
        refine ⟨.inr (.inr (.inl ⟨rfl, .inl ⟨_, O.get 2 rfl⟩⟩)), ?_⟩
        walk_at "g"
        refine upd1 O fun H3 O => ?_
        walk_at "g"
        exact keepS _ _ O.tail c
      · walk_at "g"
        refine a_dnin ?_
        walk_at "g"
        obtain ⟨o2, hg2, ho2⟩ := has_K (.inl (O.get 0 rfl)) (itr (beh b k t) n j)
        refine ⟨W, o2, rfl, hg2, ?_⟩
        rw [ho2, trueK_keys]
        walk_at "g"
        refine a_ni2 (fun c2 => ?_) (fun c2 => ?_)
        · obtain ⟨y, hy, e⟩ := itrL_mem.mp c2
          walk_at "g"
          refine a_din ?_
          walk_at "g"
          obtain ⟨o3, hg3, ho3⟩ := has_K (.inl (O.get 0 rfl)) (itr (beh b k t) n j)
          refine ⟨W, o3, rfl, hg3, ?_⟩
          rw [ho3, trueK_keys]
          walk_at "g"
          refine ⟨.inl ⟨rfl, _, Own.sq O 1 rfl⟩, ?_⟩
          walk_at "g"
          refine ⟨a, b, k, t, _, j - y, rfl, ha'.same O.st, by omega, ?_, fun x x' h1 h2 => ?_, fun r L H2 O2 hl rg => ?_⟩
          · rw [e, ← itr_add, show y + (j - y) = j by omega, e]
          · rw [e, ← itr_add, ← itr_add]
            exact dis _ _ (by omega) (by omega)
          replace O := O.join O2
          rw [e] at rg
          have O1 : Own (upd B r (.tup (L.map V.int))) [(W, trueK (itrL (beh b k t) n j)), (Fd, .lst (refs ps)), (Sd, trueK S)] H2 := O.fix
          have sB1 : Same B (upd B r (.tup (L.map V.int))) := O.fixS
          walk_at "g"
          refine a_app O1 1 rfl (by unfold refs; rw [List.length_map]; omega) (fun H4 O4 => ?_)
          simp only [List.set] at O4
          walk_at "g"
          refine ⟨.inr (.inr (.inl ⟨rfl, .inl ⟨_, O4.get 2 rfl⟩⟩)), ?_⟩
          walk_at "g"
          refine a_upd O4 2 0 rfl rfl neWS ?_ ?_ (fun H3 O => ?_)
          · rw [← List.map_append, trueK_keys]
            exact rI.grow dis out
          · rw [List.length_map, List.length_map, itrL_len]
            have := few_near rI.nd near
            omega
          rw [← List.map_append] at O
          replace O := O.tail
          walk_at "g"
          refine ⟨_, ps ++ [(r, L)], S ++ itrL (beh b k t) n j, _, _, _, rfl, sB.trans sB1, ?_, fun q hq => ?_, ?_, nearW, fun z hz => ?_, ?_⟩
          · have e2 : refs (ps ++ [(r, L)]) = refs ps ++ [V.ref r] := by unfold refs; rw [List.map_append]; rfl
            rw [e2]
            exact O
          · rcases List.mem_append.mp hq with hq | hq
            · exact sB1 _ _ (rT q hq)
            · rw [List.mem_singleton] at hq
              rw [hq]
              exact upd_same
          · rw [List.map_append]
            exact rI.more ⟨hy, e, dis⟩ out rg
          · by_cases e3 : z = i
            · rw [e3, hbeg]
              exact List.mem_append_right _ (itrL_mem.mpr ⟨0, by omega, rfl⟩)
            · exact List.mem_append_left _ (front z (by omega))
          · rw [List.length_append]
            show ps.length + 1 ≤ i + 1
            omega
        · refine a_turn ?_
          walk_at "g"
          refine a_dset ?_
          walk_at "g"
          refine a_putK O 0 rfl (by rw [trueK_keys]; exact c2) (by rw [List.length_map, itrL_len]; omega) _ (fun H3 O => ?_)
          simp only [List.set] at O
          walk_at "g"
          refine ⟨m - 1, by omega, j + 1, rfl, ?_, fun x x' h1 h2 => ?_, fun x hx => ?_, by omega⟩
          · rw [itrL_succ]
            unfold trueK
            rw [List.map_append]
            exact O
          · by_cases e : x' = j
            · subst e
              exact fun z => c2 (itrL_mem.mpr ⟨x, h1, z.symm⟩)
            · exact dis x x' h1 (by omega)
          · by_cases e : x = j
            · subst e; exact c
            · exact out x (by omega)
    · rintro σ H' ⟨B, ps, S, v4, v5, v6, rfl, sB, O, rT, rI, near, front, few⟩
      walk_at "g"
      refine ⟨Fd, ps, rfl, Own.sq O 0 rfl, fun q hq => ⟨.inl (.inl (O.st _ _ (rT q hq))), ?_⟩, fun p hp => ?_⟩
      · obtain ⟨x, _, r⟩ := (rI.rg q.2).mp (List.mem_map.mpr ⟨q, hq, rfl⟩)
        exact r.ne
      · replace O := Own.new (o := .lst (refs (ps.mergeSort leT))) O hp
        refine h p (ps.mergeSort leT) B _ sB (O.less (.cons_cons _ (List.nil_sublist _))) (fun q hq => rT q (sort_memT.mp hq)) ?_ (sort_T ps) ?_
        · refine (rI.all (C := most) (bound_less bo) fun x h1 h2 => ?_).perm ((List.mergeSort_perm ps leT).map _)
          have := front (x + most).toNat (by omega)
          rw [show -most + (((x + most).toNat : Nat) : Int) = x by omega] at this
          exact this
        · rw [List.length_mergeSort]; omega

/-! ### law_taken -/
/-- the row of draws as it stands -/
def RowOk (sc : Addr) (o : HO) : Prop := ∃ i s c : Int, o = .lst [.ref sc, .int i, .int s, .int c] ∧ 0 ≤ i ∧ 0 ≤ s ∧ s < 2147483647 ∧ 0 ≤ c
def sp_law_taken (K : Frag) : Sp := fun vs H Q _ => ∃ (row sc : Addr) (o : HO) (ns : List Int) (m : Int), vs = [.ref row, .int m] ∧ H row = some o ∧ RowOk sc o ∧ SqL K H sc (ns.map V.int) ∧ 0 < m ∧ m < 10 ^ 60 ∧
  ∀ (r : Int) (o' : HO) (H' : Hp), 0 ≤ r → r < m → RowOk sc o' → H' row = some o' → (∀ b v, b ≠ row → H b = some v → H' b = some v) → Q (.int r) H'
theorem row_ne {K : Frag} {H : Hp} {row sc : Addr} {o : HO} {ns : List Int} (h : H row = some o) (r : RowOk sc o) (hs : SqL K H sc (ns.map V.int)) : SqL K (del1 H row) sc (ns.map V.int) := by
  obtain ⟨i, s, c, rfl, _⟩ := r
  have d : ∀ ns : List Int, (ns.map V.int) ≠ [.ref sc, .int i, .int s, .int c] := fun ns e => by
    cases ns with
    | nil => cases e
    | cons a l => injection e with e1 _; cases e1
  rcases hs with (hs | ⟨q, hs⟩) | hs
  · have ne : sc ≠ row := fun z => by
      rw [z, h] at hs
      injection hs with e
      injection e with e
      exact d ns e.symm
    exact .inl (.inl (by rw [del1_ne ne]; exact hs))
  · have ne : sc ≠ row := fun z => by
      rw [z, h] at hs
      injection hs with e
      cases e
    exact .inl (.inr ⟨q, by rw [del1_ne ne]; exact hs⟩)
  · exact .inr hs
theorem use_law_taken {K : Frag} {B H : Hp} {Lw : List (Addr × HO)} {row sc : Addr} {o : HO} {ns : List Int} {m : Int} {Q : VK} {E : XK} (O : Own B Lw H) (i : Nat) (hi : Lw[i]? = some (row, o)) (ho : RowOk sc o) (hs : SqL K B sc (ns.map V.int)) (h1 : 0 < m ∧ m < 10 ^ 60)
    (h : ∀ (r : Int) (o' : HO) (H' : Hp), 0 ≤ r → r < m → RowOk sc o' → Own B (Lw.set i (row, o')) H' → Q (.int r) H') : sp_law_taken K ([.ref row, .int m] ++ []) H Q E :=
  ⟨row, sc, o, ns, m, rfl, O.get i hi, ho, O.seq hs, h1.1, h1.2, fun r o' H' hr0 hr1 ho' h1 h2 => h r o' H' hr0 hr1 ho' (O.but i hi h2 h1)⟩
theorem ok_law_taken (T : Txt K mg Z) : FnOk P w K mg base CX0 1 Z.f_law_taken Z.d_law_taken p_law_taken (sp_law_taken K) := by
  refine T.F_law_taken.ok sc_law_taken (fun vs H Q E h => ?_) (fun cdv A outer s H vs Q E hr h => ?_)
  · obtain ⟨_, _, _, _, _, rfl, _⟩ := h; rfl
  · obtain ⟨row, sc, o, ns, m, rfl, hrow, hok, hs, hm0, hm1, h⟩ := h
    have hs1 := row_ne hrow hok hs
    have O := Own.refl1 hrow
    obtain ⟨i, s0, c, rfl, hi0, hs0, hs2, hc0⟩ := hok
    refine ⟨_, (pss_cons (ps_if (pt_cmpR op_gt (pe_ix (r := rIxL K) ix_list (pv 0) pe_int (fun _ _ => rfl)) pe_int (nomark _)) (pss_cons (ps_set (i := 2) sc_law_taken.nd rfl (Or.inl rfl) (pe_op op_mod (pe_callTy call_int1 (by rfl) T.n_int boot_int (pa_cons (pe_ix (r := rIxL K) ix_list (pv 0) pe_int (fun _ _ => rfl)) pa_nil)) (pv 1)))
    (pss_cons (ps_asg (pe_op op_fdivW (pe_ix (r := rIxL K) ix_list (pv 0) pe_int (fun _ _ => rfl)) (pv 1)) (pg_sub (pv 0) pe_int set_list))
    (pss_one (ps_ret (pv 2))))) pss_nil)
    (pss_cons (ps_asg (pe_op op_add (pe_ix (r := rIxL K) ix_list (pv 0) pe_int (fun _ _ => rfl)) pe_int) (pg_sub (pv 0) pe_int set_list))
    (pss_cons (ps_if (pt_cmpR op_gt (pe_ix (r := rIxL K) ix_list (pv 0) pe_int (fun _ _ => rfl)) (pe_callB (r := R.rLen K) call_lenR (by rfl) T.n_len boot_len (pa_cons (pe_ix (r := rIxL K) ix_list (pv 0) pe_int (fun _ _ => rfl)) pa_nil)) (nomark _)) (pss_cons (ps_asg (pe_op op_mod (pe_callTy call_int1 (by rfl) T.n_int boot_int (pa_cons (pe_op op_add (pe_op op_mulX (pe_ix (r := rIxL K) ix_list (pv 0) pe_int (fun _ _ => rfl)) pe_int) pe_int) pa_nil)) pe_int) (pg_sub (pv 0) pe_int set_list))
    (pss_one (ps_ret (pe_op op_mod (pe_callTy call_int1 (by rfl) T.n_int boot_int (pa_cons (pe_op op_fdivW (pe_ix (r := rIxL K) ix_list (pv 0) pe_int (fun _ _ => rfl)) pe_int) pa_nil)) (pv 1))))) pss_nil)
    (pss_cons (ps_set (i := 3) sc_law_taken.nd rfl (Or.inl rfl) (pe_ix (r := rIxL K) ix_list (pe_ix (r := rIxL K) ix_list (pv 0) pe_int (fun _ _ => rfl)) (pe_op op_sub (pe_ix (r := rIxL K) ix_list (pv 0) pe_int (fun _ _ => rfl)) pe_int) (fun _ _ => rfl)))
    (pss_cons (ps_asg (pe_op op_mod (pe_callTy call_int1 (by rfl) T.n_int boot_int (pa_cons (pe_op op_add (pe_op op_add (pe_op op_mulX (pe_ix (r := rIxL K) ix_list (pv 0) pe_int (fun _ _ => rfl)) pe_int) (pv 3)) pe_int) pa_nil)) pe_int) (pg_sub (pv 0) pe_int set_list))
    (pss_cons (ps_if (pt_cmpR op_ge (pv 3) (pe_op op_pow pe_int pe_int) (nomark _)) (pss_one (ps_asg (pe_op op_fdivW (pv 3) (pv 1)) (pg_sub (pv 0) pe_int set_list))) pss_nil)
    (pss_one (ps_ret (pe_op op_mod (pe_callTy call_int1 (by rfl) T.n_int boot_int (pa_cons (pv 3) pa_nil)) (pv 1)))))))))), ?_⟩
    walk_at "g"
    refine a_it2 (fun c1 => ?_) (fun c1 => ?_)
    · walk_at "g"
      refine h _ _ _ (Int.emod_nonneg _ (by omega)) (Int.emod_lt_of_pos _ hm0) ?_ (Own.get (by assumption) 0 rfl) (Own.toBut (by assumption))
      exact ⟨_, _, _, rfl, hi0, hs0, hs2, Int.ediv_nonneg hc0 (by omega)⟩
    · walk_at "g"
      refine a_it2 (fun c2 => ?_) (fun c2 => ?_)
      · walk_at "g"
        refine h _ _ _ (Int.emod_nonneg _ (by omega)) (Int.emod_lt_of_pos _ hm0) ?_ (Own.get (by assumption) 0 rfl) (Own.toBut (by assumption))
        exact ⟨_, _, _, rfl, by omega, by omega, by omega, hc0⟩
      · rw [List.length_map] at c2
        have hlt : i.toNat < ns.length := by omega
        walk_at "g"
        refine a_ixL (v := .int (ns[i.toNat])) (Own.seq (by assumption) hs1) (at0 (j := i.toNat) (by omega) (by rw [List.getElem?_map, List.getElem?_eq_getElem hlt]; rfl)) ?_
        generalize ns[i.toNat] = cell
        walk_at "g"
        refine a_it2 (fun c3 => ?_) (fun c3 => ?_)
        · walk_at "g"
          refine h _ _ _ (Int.emod_nonneg _ (by omega)) (Int.emod_lt_of_pos _ hm0) ?_ (Own.get (by assumption) 0 rfl) (Own.toBut (by assumption))
          exact ⟨_, _, _, rfl, by omega, by omega, by omega, Int.ediv_nonneg (by omega) (by omega)⟩
        · walk_at "g"
          refine h _ _ _ (Int.emod_nonneg _ (by omega)) (Int.emod_lt_of_pos _ hm0) ?_ (Own.get (by assumption) 0 rfl) (Own.toBut (by assumption))
          exact ⟨_, _, _, rfl, by omega, by omega, by omega, hc0⟩

/-! ### law_power -/
def sp_law_power : Sp := fun vs H Q _ => ∃ b m : Int, vs = [.int b, .int m] ∧ -(2 ^ 62) ≤ m ∧ m < 2 ^ 62 ∧ -(2 ^ 64) < b ∧ b < 2 ^ 64 ∧ Q (.int (b ^ m.toNat)) H
theorem use_law_power {b m : Int} {H : Hp} {Q : VK} {E : XK} (h1 : -(2 ^ 62) ≤ m ∧ m < 2 ^ 62 ∧ -(2 ^ 64) < b ∧ b < 2 ^ 64) (h : Q (.int (b ^ m.toNat)) H) : sp_law_power ([.int b, .int m] ++ []) H Q E := ⟨_, _, rfl, h1.1, h1.2.1, h1.2.2.1, h1.2.2.2, h⟩
theorem ok_law_power (T : Txt K mg Z) : FnOk P w K mg base CX0 1 Z.f_law_power Z.d_law_power p_law_power sp_law_power := by
  refine T.F_law_power.ok sc_law_power (fun vs H Q E h => ?_) (fun cdv A outer s H vs Q E hr h => ?_)
  · obtain ⟨_, _, rfl, _⟩ := h; rfl
  · obtain ⟨b, m, rfl, h1, h2, h3, h4, h⟩ := h
    refine ⟨_, (pss_cons (ps_set (i := 2) sc_law_power.nd rfl (Or.inl rfl) pe_int)
    (pss_cons (ps_for PassesOwn.never rfl (pi_range1 rfl T.n_range (pa_cons (pv 1) pa_nil)) (pg_name (i := 3) sc_law_power.nd rfl (Or.inl rfl))
    (pss_one (ps_set (i := 2) sc_law_power.nd rfl (Or.inl rfl) (pe_op op_mulX (pv 2) (pv 0)))))
    (pss_one (ps_ret (pv 2))))), ?_⟩
    walk_at "g"
    refine for_range (fun i σ H' => H' = H ∧ ∃ v, σ = [some (.int b), some (.int m), some (.int (b ^ i)), v]) ⟨rfl, none, by rw [Int.pow_zero]; rfl⟩ ?_ ?_
    · rintro i σ H' hi ⟨rfl, v, rfl⟩
      walk_at "g"
      exact ⟨rfl, _, by rw [Int.pow_succ]; rfl⟩
    · rintro σ H' ⟨rfl, v, rfl⟩
      walk_at "g"
      exact h
-- @USE
local macro_rules | `(tactic| walk_at "c") => `(tactic| ((with_reducible refine use_law_power ?h1 ?h2); (case h1 => omega)))

/-! ### law_trick -/
-- @NEEDS Trick_init
/-- the drawn parts of a trick in a list -/
def toldL (b k t : Int) : HO := .lst [.int b, .int k, .int t]
def Small (sm : Bool) (b k : Int) : Prop := sm = true → b ^ k.toNat ≤ 25
def sp_law_trick (K : Frag) : Sp := fun vs H Q _ => ∃ (row sc : Addr) (o : HO) (ns : List Int) (sm : Bool), vs = [.ref row, .bl sm] ∧ H row = some o ∧ RowOk sc o ∧ SqL K H sc (ns.map V.int) ∧
  ∀ (b k t : Int) (p : Addr) (o' : HO) (H' : Hp), TrickOk b k t → Small sm b k → H p = none → RowOk sc o' → H' row = some o' → H' p = some (toldL b k t) → (∀ b v, b ≠ row → H b = some v → H' b = some v) → Q (.ref p) H'
theorem use_law_trick {K : Frag} {B H : Hp} {Lw : List (Addr × HO)} {row sc : Addr} {o : HO} {ns : List Int} {sm : Bool} {Q : VK} {E : XK} (O : Own B Lw H) (i : Nat) (hi : Lw[i]? = some (row, o)) (ho : RowOk sc o) (hs : SqL K B sc (ns.map V.int))
    (h : ∀ (b k t : Int) (p : Addr) (o' : HO) (H' : Hp), TrickOk b k t → Small sm b k → RowOk sc o' → Own B ((p, toldL b k t) :: Lw.set i (row, o')) H' → Q (.ref p) H') : sp_law_trick K ([.ref row, .bl sm] ++ []) H Q E :=
  ⟨row, sc, o, ns, sm, rfl, O.get i hi, ho, O.seq hs, fun b k t p o' H' h1 h2 hp ho' g1 gp g2 => h b k t p o' H' h1 h2 ho' (Own.butNew O i hi g2 g1 hp gp)⟩
theorem small_of {b k : Int} {sm : Bool} (hb : 2 ≤ b ∧ b ≤ 16) (hk : 1 ≤ k ∧ k ≤ 2) (h : sm = true → 5 < b → k = 1) : Small sm b k := fun e => by
  rcases (show k = 1 ∨ k = 2 by omega) with rfl | rfl
  · have z : b ^ (1 : Int).toNat = b := by rw [show (1 : Int).toNat = 1 from rfl, Int.pow_succ, Int.pow_zero, Int.one_mul]
    rw [z]; omega
  · have z : b ^ (2 : Int).toNat = b * b := by rw [show (2 : Int).toNat = 2 from rfl, Int.pow_succ, Int.pow_succ, Int.pow_zero, Int.one_mul]
    have b5 : b ≤ 5 := by
      by_cases q : 5 < b
      · have := h e q
        omega
      · omega
    rw [z]
    have h2 : b * b ≤ 5 * 5 := Int.mul_le_mul b5 b5 (by omega) (by omega)
    omega
theorem ok_law_trick (T : Txt K mg Z) : FnOk P w K mg base CX0 2 Z.f_law_trick Z.d_law_trick p_law_trick (sp_law_trick K) := by
  refine T.F_law_trick.ok sc_law_trick (fun vs H Q E h => ?_) (fun cdv A outer s H vs Q E hr h => ?_)
  · obtain ⟨_, _, _, _, _, rfl, _⟩ := h; rfl
  · obtain ⟨row, sc, o, ns, sm, rfl, hrow, hok, hs, h⟩ := h
    have hs := row_ne hrow hok hs
    have O := Own.refl1 hrow
    refine ⟨_, (pss_cons (ps_set (i := 2) sc_law_trick.nd rfl (Or.inr rfl) (pe_ix (r := rIxL K) ix_list (pe_lst (pa_cons pe_int (pa_cons pe_int (pa_cons pe_int (pa_cons pe_int (pa_cons pe_int (pa_cons pe_int (pa_cons (pe_op op_add pe_int (pe_call (ok_law_taken T) (hr.mono (by decide)) rfl T.g_law_taken T.F_law_taken.kp T.b_law_taken .nil pass0 (pa_cons (pv 0) (pa_cons pe_int pa_nil)))) pa_nil)))))))) (pe_call (ok_law_taken T) (hr.mono (by decide)) rfl T.g_law_taken T.F_law_taken.kp T.b_law_taken .nil pass0 (pa_cons (pv 0) (pa_cons pe_int pa_nil))) (fun _ _ => rfl)))
    (C8.pss_cut (ps_set (i := 3) sc_law_trick.nd rfl (Or.inr rfl) (pe_ifExp (PW.pt (pw_and (pt_val (pv 1)) (pw_and1 (pt_cmpR op_gt (pv 2) pe_int (nomark _))))) pe_int (pe_op op_add pe_int (pe_call (ok_law_taken T) (hr.mono (by decide)) rfl T.g_law_taken T.F_law_taken.kp T.b_law_taken .nil pass0 (pa_cons (pv 0) (pa_cons pe_int pa_nil))))))
    (pss_cons (ps_set (i := 4) sc_law_trick.nd rfl (Or.inl rfl) (pe_ix (r := rIxL K) ix_list (pe_lst (pa_cons pe_int (pa_cons (pe_un un_neg pe_int) (pa_cons (pe_un un_neg pe_int) (pa_cons pe_int (pa_cons (pe_op op_sub (pe_call (ok_law_taken T) (hr.mono (by decide)) rfl T.g_law_taken T.F_law_taken.kp T.b_law_taken .nil pass0 (pa_cons (pv 0) (pa_cons pe_int pa_nil))) pe_int) (pa_cons (pe_op op_sub (pe_call (ok_law_taken T) (hr.mono (by decide)) rfl T.g_law_taken T.F_law_taken.kp T.b_law_taken .nil pass0 (pa_cons (pv 0) (pa_cons pe_int pa_nil))) pe_int) pa_nil))))))) (pe_call (ok_law_taken T) (hr.mono (by decide)) rfl T.g_law_taken T.F_law_taken.kp T.b_law_taken .nil pass0 (pa_cons (pv 0) (pa_cons pe_int pa_nil))) (fun _ _ => rfl)))
    (C8.pss_cut (ps_if (pt_cmpR op_eq (pe_call (ok_law_taken T) (hr.mono (by decide)) rfl T.g_law_taken T.F_law_taken.kp T.b_law_taken .nil pass0 (pa_cons (pv 0) (pa_cons pe_int pa_nil))) pe_int (nomark _)) (pss_cons (ps_set (i := 5) sc_law_trick.nd rfl (Or.inr rfl) (pe_op op_add pe_int (pe_call (ok_law_taken T) (hr.mono (by decide)) rfl T.g_law_taken T.F_law_taken.kp T.b_law_taken .nil pass0 (pa_cons (pv 0) (pa_cons pe_int pa_nil)))))
    (pss_cons (ps_setLc (i := 6) rfl sc_law_trick.nd rfl rfl (sw_true rfl rfl rfl (by decide +kernel)) (own := [("_law_one", 7)]) (pi_range1 rfl T.n_range (pa_cons (pv 5) pa_nil)) (blkOk_by (N := N_law_trick) (sc := defScope s_law_trick) (by decide +kernel)) (fun _ _ _ _ _ => (pg_name (i := 7) sc_law_trick.nd rfl (Or.inl rfl))) (fun _ _ _ _ _ => (pts_one (pt_cmpR op_eq (pe_op op_mod (pe_op op_mulX (pv 7) (pe_call (ok_law_power T) (hr.mono (by decide)) rfl T.g_law_power T.F_law_power.kp T.b_law_power .nil pass0 (pa_cons (pv 2) (pa_cons (pv 3) pa_nil)))) (pv 5)) pe_int (nomark _)))) (fun _ _ _ _ _ => (pv 7)))
    (pss_one (ps_set (i := 4) sc_law_trick.nd rfl (Or.inl rfl) (pe_ifExp (pt_cmpR (r := rNeD K) (op_neD hr.units) (pv 6) (pe_lst pa_nil) (nomark _)) (pe_op op_sub (pe_ix (r := rIxL K) ix_list (pv 6) pe_int (fun _ _ => rfl)) (pe_op op_mulX (pv 5) (pe_call (ok_law_taken T) (hr.mono (by decide)) rfl T.g_law_taken T.F_law_taken.kp T.b_law_taken .nil pass0 (pa_cons (pv 0) (pa_cons pe_int pa_nil))))) (pv 4)))))) pss_nil)
    (pss_one (ps_ret (pe_lst (pa_cons (pv 2) (pa_cons (pv 3) (pa_cons (pv 4) pa_nil)))))))))), ?_⟩
    walk_at "g"
    refine use_law_taken O 0 rfl hok hs (by omega) (fun y o H1 hy0 hy1 hok O => ?_)
    walk_at "g"; walk_at "mkL"; intro p H2 hp O
    walk_at "g"
    refine use_law_taken O 1 rfl hok hs (by omega) (fun z o H3 hz0 hz1 hok O => ?_)
    walk_at "g"
    refine a_ixM (ms := [10, 2, 3, 7, 8, 16, 2 + y]) O 0 rfl hz0 hz1 (fun b hb => ?_)
    have hb : 2 ≤ b ∧ b ≤ 16 := by
      simp only [List.mem_cons, List.not_mem_nil, or_false] at hb
      omega
    replace O := O.tail
    walk_at "g"
    -- how many figures
    refine ⟨fun σ H' => ∃ (k : Int) (o : HO) (v4 v5 v6 v7 : Option V), σ = [some (.ref row), some (.bl sm), some (.int b), some (.int k), v4, v5, v6, v7] ∧ (1 ≤ k ∧ k ≤ 2) ∧ (sm = true → 5 < b → k = 1) ∧ RowOk sc o ∧ Own (del1 H row) [(row, o)] H', ?_, ?_⟩
    · walk_at "g"
      refine a_itB (fun e1 => ?_) (fun e1 => ?_)
      · walk_at "g"
        refine a_it2 (fun c => ?_) (fun c => ?_)
        · walk_at "g"
          exact ⟨1, o, _, _, _, _, rfl, by omega, fun _ _ => rfl, hok, O⟩
        · walk_at "g"
          refine use_law_taken O 0 rfl hok hs (by omega) (fun x o H4 hx0 hx1 hok O => ?_)
          walk_at "g"
          exact ⟨_, o, _, _, _, _, rfl, by omega, fun _ q => absurd q c, hok, O⟩
      · walk_at "g"
        refine use_law_taken O 0 rfl hok hs (by omega) (fun x o H4 hx0 hx1 hok O => ?_)
        walk_at "g"
        exact ⟨_, o, _, _, _, _, rfl, by omega, fun q => (by rw [e1] at q; cases q), hok, O⟩
    · clear O hok
      rintro σ H' ⟨k, o, v4, v5, v6, v7, rfl, hk, hsm, hok, O⟩
      walk_at "g"
      refine use_law_taken O 0 rfl hok hs (by omega) (fun t1 o H1 ht10 ht11 hok O => ?_)
      walk_at "g"
      refine use_law_taken O 0 rfl hok hs (by omega) (fun t2 o H1 ht20 ht21 hok O => ?_)
      walk_at "g"; walk_at "mkL"; intro p2 H4 hp2 O
      walk_at "g"
      refine use_law_taken O 1 rfl hok hs (by omega) (fun z2 o H5 hz20 hz21 hok O => ?_)
      walk_at "g"
      refine a_ixM (ms := [1, -1, -2, 0, t1 - 10, t2 - 100]) O 0 rfl hz20 hz21 (fun t ht => ?_)
      have ht : -100 ≤ t ∧ t ≤ 100 := by
        simp only [List.mem_cons, List.not_mem_nil, or_false] at ht
        omega
      replace O := O.tail
      walk_at "g"
      refine ⟨fun σ H' => ∃ (t : Int) (o : HO) (v5 v6 v7 : Option V), σ = [some (.ref row), some (.bl sm), some (.int b), some (.int k), some (.int t), v5, v6, v7] ∧ (-100 ≤ t ∧ t ≤ 100) ∧ RowOk sc o ∧ Own (del1 H row) [(row, o)] H', ?_, ?_⟩
      · walk_at "g"
        refine use_law_taken O 0 rfl hok hs (by omega) (fun x o H6 hx0 hx1 hok O => ?_)
        walk_at "g"
        refine a_it2 (fun c => ?_) (fun c => ?_)
        · walk_at "g"
          refine use_law_taken O 0 rfl hok hs (by omega) (fun d o H7 hd0 hd1 hok O => ?_)
          walk_at "g"
          intro D hD
          replace O := Own.new (o := .lst []) O hD
          refine lc_range (fun i H' => ∃ fs : List Int, (∀ x ∈ fs, 0 ≤ x ∧ x < 2 + d) ∧ fs.length ≤ i ∧ Own (del1 H row) [(D, .lst (fs.map V.int)), (row, o)] H') ⟨[], fun _ h => by simp at h, Nat.le_refl 0, O⟩ ?_ ?_
          · clear O
            rintro i H' hi ⟨fs, hf, hl, O⟩
            walk_at "g"
            refine ⟨rfl, ?_⟩
            have bs := block_small hb hk
            walk_at "g"
            refine a_it2 (fun c2 => ?_) (fun c2 => ?_)
            · walk_at "g"
              refine ⟨_, Own.get O 0 rfl, ?_, ?_⟩
              · rw [List.length_map]
                exact Nat.lt_of_lt_of_le (by omega : fs.length < 1000) (by decide)
              · replace O := Own.put (u := .lst (fs.map V.int ++ [.int (0 + (i : Int))])) O 0 rfl
                refine ⟨fs ++ [0 + (i : Int)], fun y hy => ?_, by rw [List.length_append, List.length_singleton]; omega, ?_⟩
                · rcases List.mem_append.mp hy with z | z
                  · exact hf y z
                  · have e : y = 0 + (i : Int) := by simpa using z
                    omega
                · rw [List.map_append]
                  exact O
            · exact ⟨fs, hf, by omega, O⟩
          · clear O
            rintro H' ⟨fs, hf, hl, O⟩
            walk_at "g"; walk_at "mkL"; intro e He hee O
            walk_at "g"
            cases fs with
            | nil =>
              refine a_neL (ns := []) (Own.sq O 1 rfl) (Own.sq O 0 rfl) ?_
              walk_at "g"
              exact ⟨t, o, _, _, _, rfl, ht, hok, O.tail.tail⟩
            | cons f fs =>
              refine a_neD' (d := pyL (f :: fs)) (e := pyL []) (dp_pyL (Own.sq O 1 rfl)) (dp_pyL (ns := []) (Own.sq O 0 rfl)) (can_pyL _) (Nat.le_trans (dep_pyL _) (by decide)) (can_pyL _) (Nat.le_trans (dep_pyL _) (by decide)) rfl ?_
              have hf0 := hf f List.mem_cons_self
              replace O := O.tail
              walk_at "g"
              refine a_ixI (ms := f :: fs) O 0 rfl (Int.le_refl 0) (Nat.zero_lt_succ _) ?_
              walk_at "g"
              refine use_law_taken O 1 rfl hok hs (by omega) (fun x2 o H8 hx20 hx21 hok O => ?_)
              walk_at "g"
              refine ⟨_, o, _, _, _, rfl, ?_, hok, O.tail⟩
              rcases (show x2 = 0 ∨ x2 = 1 by omega) with rfl | rfl
              · show -100 ≤ f - (2 + d) * 0 ∧ f - (2 + d) * 0 ≤ 100
                rw [Int.mul_zero]; omega
              · show -100 ≤ f - (2 + d) * 1 ∧ f - (2 + d) * 1 ≤ 100
                rw [Int.mul_one]; omega
        · walk_at "g"
          exact ⟨t, o, _, _, _, rfl, ht, hok, O⟩
      · clear O hok
        rintro σ H' ⟨t, o, v5, v6, v7, rfl, ht, hok, O⟩
        walk_at "g"; walk_at "mkL"; intro q H6 hq O
        exact h b k t q o H6 ⟨hb, hk, ht⟩ (small_of hb hk hsm) (Own.was (by assumption : Own (del1 H row) [(row, o)] H') hrow ⟨0, o, rfl⟩ hq) hok (O.get 1 rfl) (O.get 0 rfl) (Own.toBut O)

/-! ### law_behind -/
-- @NEEDS Trick_init law_trick
theorem lbeh_is {b k n : Int} (hb : 2 ≤ b ∧ b ≤ 16) (hk : 1 ≤ k ∧ k ≤ 2) : (n - n % b ^ k.toNat) / b ^ k.toNat = n / b ^ k.toNat := by
  have bs := block_small hb hk
  generalize b ^ k.toNat = m at *
  have e : n - n % m = m * (n / m) := by
    have q := Int.mul_ediv_add_emod n m
    omega
  rw [e]
  exact Int.mul_ediv_cancel_left _ (by omega)
theorem pow1 (b : Int) : b ^ (1 : Int).toNat = b := by rw [show (1 : Int).toNat = 1 from rfl, Int.pow_succ, Int.pow_zero, Int.one_mul]
theorem pow2 (b : Int) : b ^ (2 : Int).toNat = b * b := by rw [show (2 : Int).toNat = 2 from rfl, Int.pow_succ, Int.pow_succ, Int.pow_zero, Int.one_mul]
def sp_law_behind (K : Frag) : Sp := fun vs H Q _ => ∃ (a : Addr) (b k t n : Int), vs = [.ref a, .int n] ∧ SqL K H a [.int b, .int k, .int t] ∧ TrickOk b k t ∧ Q (.int (n / b ^ k.toNat + t * (n % b ^ k.toNat))) H
theorem ok_law_behind (T : Txt K mg Z) : FnOk P w K mg base CX0 1 Z.f_law_behind Z.d_law_behind p_law_behind (sp_law_behind K) := by
  refine T.F_law_behind.ok sc_law_behind (fun vs H Q E h => ?_) (fun cdv A outer s H vs Q E hr h => ?_)
  · obtain ⟨_, _, _, _, _, rfl, _⟩ := h; rfl
  · obtain ⟨a, b, k, t, n, rfl, ha, ⟨hb, hk, ht⟩, h⟩ := h
    refine ⟨_, (pss_cons (ps_asg (pv 0) (pg_lst rfl (pgs_cons (pg_name (i := 2) sc_law_behind.nd rfl (Or.inl rfl)) (pgs_cons (pg_name (i := 3) sc_law_behind.nd rfl (Or.inl rfl)) (pgs_cons (pg_name (i := 4) sc_law_behind.nd rfl (Or.inl rfl)) pgs_nil)))))
    (pss_cons (ps_set (i := 5) sc_law_behind.nd rfl (Or.inl rfl) (pe_ifExp (pt_cmpR op_eq (pv 3) pe_int (nomark _)) (pv 2) (pe_op op_mulX (pv 2) (pv 2))))
    (pss_cons (ps_set (i := 6) sc_law_behind.nd rfl (Or.inl rfl) (pe_op op_mod (pv 1) (pv 5)))
    (pss_one (ps_ret (pe_op op_add (pe_op op_fdivW (pe_op op_sub (pv 1) (pv 6)) (pv 5)) (pe_op op_mulX (pv 4) (pv 6)))))))), ?_⟩
    have bs := block_small hb hk
    have eb := lbeh_is (n := n) hb hk
    walk_at "h"
    refine a_it2 (fun c => ?_) (fun c => ?_)
    · have ek : k = 1 := by omega
      subst ek
      rw [pow1] at h bs eb
      walk_at "g"
      rw [eb]
      exact h
    · have ek : k = 2 := by omega
      subst ek
      rw [pow2] at h bs eb
      have e2 : 0 < b * b := by omega
      walk_at "g"
      rw [eb]
      exact h

/-! ### law_ring -/
-- @NEEDS Trick_init law_behind way_of
/-- the dict of places -/
def placeL (F : Int → Int) (n : Int) (j : Nat) : List (Int × V) := (List.range j).map fun i => (itr F n i, V.int (i : Int))
theorem placeL_keys (F : Int → Int) (n : Int) (j : Nat) : (placeL F n j).map (·.1) = itrL F n j := by
  unfold placeL itrL
  rw [List.map_map]; rfl
theorem placeL_succ (F : Int → Int) (n : Int) (j : Nat) : placeL F n (j + 1) = placeL F n j ++ [(itr F n j, V.int (j : Int))] := by
  unfold placeL
  rw [List.range_succ, List.map_append]; rfl
theorem placeL_get {F : Int → Int} {n : Int} {j i : Nat} (hi : i < j) (dis : ∀ i i', i < i' → i' < j → itr F n i ≠ itr F n i') : ((placeL F n j).find? fun x => decide (x.1 = itr F n i)).map (·.2) = some (.int (i : Int)) := by
  induction j with
  | zero => omega
  | succ j ih =>
    rw [placeL_succ, List.find?_append]
    by_cases c : i < j
    · have q := ih c fun x y h1 h2 => dis x y h1 (by omega)
      cases e : (placeL F n j).find? fun x => decide (x.1 = itr F n i) with
      | none => rw [e] at q; cases q
      | some y => rw [e] at q; exact q
    · obtain rfl : i = j := by omega
      have z : ((placeL F n i).find? fun x => decide (x.1 = itr F n i)) = none := by
        rw [List.find?_eq_none]
        intro x hx e
        have e := of_decide_eq_true e
        unfold placeL at hx
        obtain ⟨y, hy, rfl⟩ := List.mem_map.mp hx
        exact dis y i (List.mem_range.mp hy) (by omega) e
      rw [z, List.find?_cons, decide_eq_true rfl]; rfl
theorem itrL_drop {F : Int → Int} {n : Int} {j i : Nat} (h : i ≤ j) : (itrL F n j).drop i = itrL F (itr F n i) (j - i) := by
  refine List.ext_getElem? fun x => ?_
  rw [List.getElem?_drop]
  by_cases c : x < j - i
  · rw [itrL_at c, itrL_at (by omega), itr_add]
  · rw [List.getElem?_eq_none (l := itrL F n j) (by rw [itrL_len]; omega), List.getElem?_eq_none (by rw [itrL_len]; omega)]
def sp_law_ring (K : Frag) : Sp := fun vs H Q _ => ∃ (a : Addr) (b k t n : Int), vs = [.ref a, .int n] ∧ SqL K H a [.int b, .int k, .int t] ∧ TrickOk b k t ∧ (-(10 ^ 40) ≤ n ∧ n ≤ 10 ^ 40) ∧
  ∀ (p q : Addr) (m i : Nat) (L : List Int) (H' : Hp), Own H [(p, .tup [.int i, .ref q]), (q, .tup (L.map V.int))] H' → WayOf (beh b k t) n m i → L.length = m - i → RingOf (beh b k t) (itr (beh b k t) n i) L → Q (.ref p) H'
theorem ok_law_ring (T : Txt K mg Z) : FnOk P w K mg base CX0 2 Z.f_law_ring Z.d_law_ring p_law_ring (sp_law_ring K) := by
  refine T.F_law_ring.ok sc_law_ring (fun vs H Q E h => ?_) (fun cdv A outer s H vs Q E hr h => ?_)
  · obtain ⟨_, _, _, _, _, rfl, _⟩ := h; rfl
  · obtain ⟨a, b, k, t, n, rfl, hS, tk, hn, h⟩ := h
    have bs := block_small tk.1 tk.2.1
    have half := beh_half bs tk.2.2
    have O := Own.refl H
    refine ⟨_, (pss_cons (ps_par (i := 2) (j := 3) (by rfl) sc_law_ring.nd rfl rfl (by decide) rfl rfl (pa_cons pe_dnewK (pa_cons (pe_lst pa_nil) pa_nil)) (by rfl))
    (pss_cons (ps_while PassesOwn.never (pt_cmp (pc_dnotin (hu_of hr) (pv 1) (pv 2)))
    (pss_cons (ps_dput (hu_of hr) (pv 2) (pv 1) (pe_callB (r := R.rLen K) call_lenR (by rfl) T.n_len boot_len (pa_cons (pv 3) pa_nil)) rfl)
    (pss_cons (ps_expr (pe_bm PySem.F.plainAttrs_list PySem.F.slot_list_append PySem.F.type_list_append mt_append (pv 3) (pa_cons (pv 1) pa_nil)))
    (pss_one (ps_set (i := 1) sc_law_ring.nd rfl (Or.inl rfl) (pe_call (ok_law_behind T) (hr.mono (by decide)) rfl T.g_law_behind T.F_law_behind.kp T.b_law_behind .nil pass0 (pa_cons (pv 0) (pa_cons (pv 1) pa_nil))))))))
    (pss_cons (ps_set (i := 4) sc_law_ring.nd rfl (Or.inl rfl) (pe_slice (r := rSlL K) sl_list (pv 3) (po_some (pe_dget (hu_of hr) (pv 2) (pv 1) (fun _ _ => rfl))) po_none))
    (pss_cons (ps_set (i := 5) sc_law_ring.nd rfl (Or.inl rfl) (pe_bm PySem.F.plainAttrs_list PySem.F.slot_list_index PySem.F.type_list_index mt_index (pv 4) (pa_cons (pe_callB (r := rMin K) (cr_min rfl) (by rfl) T.n_min boot_min (pa_cons (pv 4) pa_nil)) pa_nil)))
    (pss_one (ps_ret (pe_tup (pa_cons (pe_dget (hu_of hr) (pv 2) (pv 1) (fun _ _ => rfl)) (pa_cons (pe_callTy (r := rTupOf K) call_tupR (by rfl) T.n_tuple boot_tuple (pa_cons (pe_op op_cat (pe_slice (r := rSlL K) sl_list (pv 4) (po_some (pv 5)) po_none) (pe_slice (r := rSlL K) sl_list (pv 4) po_none (po_some (pv 5)))) pa_nil)) pa_nil))))))))), ?_⟩
    walk_at "g"
    intro D hD
    replace O := Own.new (o := .dK []) O hD
    walk_at "g"; walk_at "mkL"; intro q H1 hq O
    walk_at "g"
    refine a_while (fun m σ H' => ∃ (j : Nat) (v4 v5 : Option V), σ = [some (.ref a), some (.int (itr (beh b k t) n j)), some (.ref D), some (.ref q), v4, v5] ∧ Own H [(q, .lst ((itrL (beh b k t) n j).map V.int)), (D, KD (placeL (beh b k t) n j))] H' ∧ (∀ i i', i < i' → i' < j → itr (beh b k t) n i ≠ itr (beh b k t) n i') ∧ j + m = 102148) ⟨102148, 0, _, _, rfl, O, fun i i' h1 h2 => by omega, rfl⟩ ?_
    clear O
    rintro m σ H' ⟨j, v4, v5, rfl, O, dis, hm⟩
    walk_at "g"
    refine a_dnin ?_
    walk_at "g"
    obtain ⟨o, hg, ho⟩ := has_K (.inl (O.get 1 rfl)) (itr (beh b k t) n j)
    refine ⟨D, o, rfl, hg, ?_⟩
    rw [ho, placeL_keys]
    walk_at "g"
    have short := way_short half hn dis
    refine a_ni2 (fun c => ?_) (fun c => ?_)
    · obtain ⟨i, hi, e⟩ := itrL_mem.mp c
      have hget : ∀ H', Own H [(q, .lst ((itrL (beh b k t) n j).map V.int)), (D, KD (placeL (beh b k t) n j))] H' → DGet H' D (.int (itr (beh b k t) n j)) (some (.int (i : Int))) := fun H' O => get_K (.inl (O.get 1 rfl)) (by rw [e]; exact placeL_get hi dis)
      walk_at "g"
      refine a_dget ?_
      walk_at "g"
      refine ⟨D, _, rfl, hget _ O, ?_⟩
      walk_at "g"
      refine a_slFrom (k := i) rfl O (Own.sq O 0 rfl) (fun l0 H2 hl0 O => ?_)
      rw [itrL_drop (by omega)] at O
      have back : itr (beh b k t) (itr (beh b k t) n i) (j - i) = itr (beh b k t) n i := by rw [← itr_add, show i + (j - i) = j by omega, e]
      have dis2 : ∀ x y, x < y → y < j - i → itr (beh b k t) (itr (beh b k t) n i) x ≠ itr (beh b k t) (itr (beh b k t) n i) y := fun x y h1 h2 => by
        rw [← itr_add, ← itr_add]
        exact dis _ _ (by omega) (by omega)
      walk_at "g"
      refine ⟨.inl ⟨rfl, _, Own.sq O 0 rfl⟩, ?_⟩
      walk_at "g"
      refine ⟨l0, itrL (beh b k t) (itr (beh b k t) n i) (j - i), rfl, Own.sq O 0 rfl, by rw [itrL_len]; omega, fun mn hmn hle => ?_⟩
      obtain ⟨x, hx, rfl⟩ := itrL_mem.mp hmn
      walk_at "g"
      refine a_indexI (Own.sq O 0 rfl) (j := x) (itrL_at hx) (fun m' z hm' hz => ?_) ?_
      · rw [itrL_at (by omega)] at hz
        cases hz
        exact dis2 m' x hm' hx
      walk_at "g"
      refine a_dget ?_
      walk_at "g"
      refine ⟨D, _, rfl, hget _ O.tail, ?_⟩
      walk_at "g"
      refine a_slFrom (k := x) rfl O (Own.sq O 0 rfl) (fun l1 H3 hl1 O => ?_)
      walk_at "g"
      refine a_slTo (k := x) rfl O (Own.sq O 1 rfl) (fun l2 H4 hl2 O => ?_)
      walk_at "g"
      refine a_catM O (O.get 1 rfl) (O.get 0 rfl) (by rw [List.length_map, List.length_map, List.length_drop, List.length_take, itrL_len]; omega) (fun l3 H5 hl3 O => ?_)
      rw [← List.map_append] at O
      walk_at "g"
      refine a_tupL O (Own.sq O 0 rfl) (fun l4 H6 hl4 O => ?_)
      walk_at "g"; walk_at "mkT"; intro l5 H7 hl5 O
      walk_at "g"
      refine h l5 l4 j i _ H7 (O.less (.cons_cons _ (.cons_cons _ (List.nil_sublist _)))) ⟨hi, e, dis⟩ ?_ (ring_turn hx back dis2 fun y hy => hle _ (itrL_mem.mpr ⟨y, hy, rfl⟩))
      rw [List.length_append, List.length_drop, List.length_take, itrL_len]
      omega
    · refine a_turn ?_
      walk_at "g"
      refine a_dset ?_
      walk_at "g"
      rw [List.length_map, itrL_len]
      walk_at "g"
      refine a_putK O 1 rfl (by rw [placeL_keys]; exact c) (by unfold placeL; rw [List.length_map, List.length_range]; omega) _ (fun H3 O => ?_)
      simp only [List.set] at O
      walk_at "g"
      refine ⟨.inl ⟨rfl, _, Own.sq O 0 rfl⟩, ?_⟩
      walk_at "g"
      refine a_app O 0 rfl (by rw [List.length_map, itrL_len]; omega) (fun H4 O => ?_)
      simp only [List.set] at O
      walk_at "g"
      refine ⟨a, b, k, t, _, rfl, O.seq hS, tk, ?_⟩
      walk_at "g"
      refine ⟨m - 1, by omega, j + 1, _, _, rfl, ?_, fun i i' h1 h2 => ?_, by omega⟩
      · rw [itrL_succ, placeL_succ, List.map_append]
        exact O
      · by_cases e : i' = j
        · subst e
          exact fun z => c (itrL_mem.mpr ⟨i, h1, z.symm⟩)
        · exact dis i i' h1 (by omega)

/-! ### law -/
-- @NEEDS Trick_init rings law_ring law_behind law_trick law_power law_taken
def sp_law (K : Frag) : Sp := fun vs H Q _ => ∃ (a : Addr) (ns : List Int), vs = [.ref a] ∧ SqL K H a (ns.map V.int) ∧ ns.length ≤ 63 ∧ ∀ H', Q (.bl true) H'
theorem safe_step {B t n : Int} (hB : 2 ≤ B) : ((n / B + t * (n % B)).natAbs : Int) ≤ ((n.natAbs / 2 : Nat) : Int) + 1 + (t.natAbs : Int) * (B - 1) := by
  have r0 : 0 ≤ n % B := Int.emod_nonneg _ (by omega)
  have r1 : n % B < B := Int.emod_lt_of_pos _ (by omega)
  have e := Int.mul_ediv_add_emod n B
  have t0 : 0 ≤ (t.natAbs : Int) := by omega
  have t1 : t * (n % B) ≤ (t.natAbs : Int) * (n % B) := Int.mul_le_mul_of_nonneg_right (by omega) r0
  have t2 : -(t.natAbs : Int) * (n % B) ≤ t * (n % B) := Int.mul_le_mul_of_nonneg_right (by omega) r0
  have t3 : (t.natAbs : Int) * (n % B) ≤ (t.natAbs : Int) * (B - 1) := Int.mul_le_mul_of_nonneg_left (by omega) t0
  rw [Int.neg_mul] at t2
  have q : (n / B).natAbs ≤ n.natAbs / 2 + 1 := by
    generalize n / B = q at *
    by_cases c : 0 ≤ q
    · have := Int.mul_le_mul_of_nonneg_right hB c
      omega
    · have z : B * (-q) ≥ 2 * (-q) := Int.mul_le_mul_of_nonneg_right hB (by omega)
      rw [Int.mul_neg] at z
      by_cases c2 : q ≤ -2
      · have z2 : B * (-q - 1) ≥ 2 * (-q - 1) := Int.mul_le_mul_of_nonneg_right hB (by omega)
        rw [Int.mul_sub, Int.mul_neg, Int.mul_one] at z2
        omega
      · omega
  generalize t * (n % B) = s at *
  generalize n / B = q at *
  generalize (t.natAbs : Int) * (n % B) = u at *
  generalize (t.natAbs : Int) * (B - 1) = v at *
  omega
def safeN (b k t : Int) : Int := 2 * (2 + (t.natAbs : Int) * b ^ k.toNat)
theorem safe_all {b k t : Int} (hB : 2 ≤ b ^ k.toNat) (n : Int) : ((beh b k t n).natAbs : Int) ≤ ((n.natAbs / 2 : Nat) : Int) - 1 + safeN b k t / 2 := by
  have h := safe_step (t := t) (n := n) hB
  unfold beh safeN
  rw [Int.mul_sub, Int.mul_one] at h
  omega
theorem safe_in {b k t : Int} (hB : 2 ≤ b ^ k.toNat) {n : Int} (hn : (n.natAbs : Int) ≤ safeN b k t) : ((beh b k t n).natAbs : Int) ≤ safeN b k t := by
  have := safe_all (t := t) hB n
  omega
theorem safe_out {b k t : Int} (hB : 2 ≤ b ^ k.toNat) (n : Int) (hn : safeN b k t < (n.natAbs : Int)) : ((beh b k t n).natAbs : Int) < (n.natAbs : Int) := by
  have := safe_all (t := t) hB n
  omega
theorem safe_itr {b k t : Int} (hB : 2 ≤ b ^ k.toNat) {n : Int} (hn : (n.natAbs : Int) ≤ safeN b k t) : ∀ i, ((itr (beh b k t) n i).natAbs : Int) ≤ safeN b k t
  | 0 => hn
  | i + 1 => safe_in hB (safe_itr hB hn i)
theorem safe_small {b k t : Int} (hB : 2 ≤ b ^ k.toNat ∧ b ^ k.toNat ≤ 25) (ht : -12 ≤ t ∧ t ≤ 12) : 0 ≤ safeN b k t ∧ safeN b k t ≤ 604 := by
  unfold safeN
  have h1 : (t.natAbs : Int) * b ^ k.toNat ≤ 12 * 25 := Int.mul_le_mul (by omega) hB.2 (by omega) (by omega)
  have h0 : 0 ≤ (t.natAbs : Int) * b ^ k.toNat := Int.mul_nonneg (by omega) (by omega)
  omega
theorem ok_law (T : Txt K mg Z) : FnOk P w K mg base CX0 5 Z.f_law Z.d_law p_law (sp_law K) := by
  refine T.F_law.ok sc_law (fun vs H Q E h => ?_) (fun cdv A outer s H vs Q E hr h => ?_)
  · obtain ⟨_, _, rfl, _⟩ := h; rfl
  · obtain ⟨a, ns, rfl, hS, hlen, h⟩ := h
    have O := Own.refl H
    refine ⟨_, (pss_cons (ps_set (i := 1) sc_law.nd rfl (Or.inl rfl) (pe_lst (pa_cons (pv 0) (pa_cons pe_int (pa_cons pe_int (pa_cons pe_int pa_nil))))))
    (pss_cons (ps_set (i := 2) sc_law.nd rfl (Or.inl rfl) (pe_call (ok_law_trick T) (hr.mono (by decide)) rfl T.g_law_trick T.F_law_trick.kp T.b_law_trick .nil pass0 (pa_cons (pv 1) (pa_cons pe_bl pa_nil))))
    (pss_cons (ps_asg (pe_op op_sub (pe_call (ok_law_taken T) (hr.mono (by decide)) rfl T.g_law_taken T.F_law_taken.kp T.b_law_taken .nil pass0 (pa_cons (pv 1) (pa_cons pe_int pa_nil))) pe_int) (pg_sub (pv 2) pe_int set_list))
    (pss_cons (ps_par (i := 3) (j := 4) (by rfl) sc_law.nd rfl rfl (by decide) rfl rfl (pa_cons (pe_make T.M_Trick (ok_Trick_init T) (hr.mono (by decide)) rfl T.g_Trick T.b_Trick_init .nil pass0 (pa_cons (pe_ix (r := rIxL K) ix_list (pv 2) pe_int (fun _ _ => rfl)) (pa_cons (pe_ix (r := rIxL K) ix_list (pv 2) pe_int (fun _ _ => rfl)) (pa_cons (pe_ix (r := rIxL K) ix_list (pv 2) pe_int (fun _ _ => rfl)) pa_nil)))) (pa_cons (pe_call (ok_law_power T) (hr.mono (by decide)) rfl T.g_law_power T.F_law_power.kp T.b_law_power .nil pass0 (pa_cons (pe_ix (r := rIxL K) ix_list (pv 2) pe_int (fun _ _ => rfl)) (pa_cons (pe_ix (r := rIxL K) ix_list (pv 2) pe_int (fun _ _ => rfl)) pa_nil))) pa_nil)) (by rfl))
    (pss_cons (ps_par (i := 5) (j := 6) (by rfl) sc_law.nd rfl rfl (by decide) rfl rfl (pa_cons (pe_op op_mulX pe_int (pe_op op_add pe_int (pe_op op_mulX (pe_callB call_absR (by rfl) T.n_abs boot_abs (pa_cons (pe_ix (r := rIxL K) ix_list (pv 2) pe_int (fun _ _ => rfl)) pa_nil)) (pv 4)))) (pa_cons pe_dnewT pa_nil)) (by rfl))
    (pss_cons (ps_set (i := 7) sc_law.nd rfl (Or.inl rfl) pe_dnewK)
    (pss_cons (ps_for PassesOwn.never rfl (pi_range2 rfl T.n_range (pa_cons (pe_un un_neg (pv 5)) (pa_cons (pe_op op_add (pv 5) pe_int) pa_nil))) (pg_name (i := 8) sc_law.nd rfl (Or.inl rfl))
    (pss_cons (ps_par (i := 9) (j := 10) (by rfl) sc_law.nd rfl rfl (by decide) rfl rfl (pa_cons (pv 8) (pa_cons pe_dnewK pa_nil)) (by rfl))
    (pss_cons (ps_for PassesOwn.never rfl (pi_range1 rfl T.n_range (pa_cons (pe_op op_add (pe_op op_mulX pe_int (pv 5)) pe_int) pa_nil)) (pg_name (i := 11) sc_law.nd rfl (Or.inl rfl))
    (pss_cons (ps_if (pt_cmp (pc_din (hu_of hr) (pv 9) (pv 7))) (pss_one ps_break) pss_nil)
    (pss_cons (ps_dput (hu_of hr) (pv 7) (pv 9) pe_bl rfl)
    (pss_cons (ps_dput (hu_of hr) (pv 10) (pv 9) pe_bl rfl)
    (pss_one (ps_set (i := 9) sc_law.nd rfl (Or.inl rfl) (pe_call (ok_law_behind T) (hr.mono (by decide)) rfl T.g_law_behind T.F_law_behind.kp T.b_law_behind .nil pass0 (pa_cons (pv 2) (pa_cons (pv 9) pa_nil)))))))))
    (pss_one (ps_if (pt_cmp (pc_din (hu_of hr) (pv 9) (pv 10))) (pss_one (ps_dput (hu_of hr) (pv 6) (pe_ix (r := rIxT K) ix_tup (pe_call (ok_law_ring T) (hr.mono (by decide)) rfl T.g_law_ring T.F_law_ring.kp T.b_law_ring .nil pass0 (pa_cons (pv 2) (pa_cons (pv 9) pa_nil))) pe_int (fun _ _ => rfl)) pe_bl rfl)) pss_nil)))))
    (pss_one (ps_ret (pe_cmpR (r := rEqD K) (op_eqD hr.units) (pe_call (ok_rings T) (hr.mono (by decide)) rfl T.g_rings T.F_rings.kp T.b_rings .nil pass0 (pa_cons (pv 3) pa_nil)) (pe_callB (r := rSortedTD K) (cr_sortedTD rfl hr.units) (by rfl) T.n_sorted boot_sorted (pa_cons (pv 6) pa_nil)) (nomark _))))))))))), ?_⟩
    walk_at "g"; walk_at "mkL"; intro row H1 hrow O
    have ok : RowOk a (.lst [.ref a, .int 0, .int 113, .int 0]) := ⟨0, 113, 0, rfl, by decide, by decide, by decide, by decide⟩
    walk_at "g"
    refine use_law_trick O 0 rfl ok hS (fun b k t0 p o H2 tk0 sm ok O => ?_)
    simp only [List.set] at O
    walk_at "g"
    refine use_law_taken O 1 rfl ok hS (by omega) (fun t1 o H3 ht0 ht1 ok O => ?_)
    simp only [List.set] at O
    walk_at "g"
    simp only [List.set] at *
    have tk : TrickOk b k (t1 - 12) := ⟨tk0.1, tk0.2.1, by omega⟩
    have bs0 := block_small tk.1 tk.2.1
    have bs : 2 ≤ b ^ k.toNat ∧ b ^ k.toNat ≤ 25 := ⟨bs0.1, sm rfl⟩
    have half := beh_half bs0 tk.2.2
    have ss := safe_small (t := t1 - 12) bs (by omega)
    rename_i O1
    replace O : Own H [(p, toldL b k (t1 - 12)), (row, o)] _ := O1
    clear O1
    have tb : -12 ≤ t1 - 12 ∧ t1 - 12 ≤ 12 := by omega
    generalize t1 - 12 = t at *
    refine use_Trick O tk (fun x B H4 hx sB O ha => ?_)
    walk_at "g"
    obtain ⟨⟨hb1, hb2⟩, ⟨hk1, hk2⟩, _⟩ := id tk
    refine use_law_power ⟨by omega, by omega, by omega, by omega⟩ ?_
    walk_at "g"
    intro Du hDu
    replace O := Own.new (o := .dT []) O hDu
    walk_at "g"
    intro Kn hKn
    replace O := Own.new (o := .dK []) O hKn
    rw [show (2 * (2 + (t.natAbs : Int) * b ^ k.toNat)) = safeN b k t from rfl]
    have sit : ∀ {n : Int}, (n.natAbs : Int) ≤ safeN b k t → ∀ i, ((itr (beh b k t) n i).natAbs : Int) ≤ safeN b k t := fun hn => safe_itr bs.1 hn
    have sout : ∀ n : Int, safeN b k t < (n.natAbs : Int) → ((beh b k t n).natAbs : Int) < (n.natAbs : Int) := safe_out bs.1
    generalize safeN b k t = C at *
    walk_at "g"
    refine for_range (fun i σ H' => ∃ (Ls : List (List Int)) (S : List Int) (v8 v9 v10 v11 : Option V), σ = [some (.ref a), some (.ref row), some (.ref p), some (.ref x), some (.int (b ^ k.toNat)), some (.int C), some (.ref Du), some (.ref Kn), v8, v9, v10, v11] ∧ Own B [(Kn, trueK S), (Du, TDS Ls), (p, toldL b k t), (row, o)] H' ∧ RingsIn (beh b k t) S Ls ∧ (∀ x ∈ S, (x.natAbs : Int) ≤ C) ∧ (∀ j : Nat, j < i → -C + (j : Int) ∈ S) ∧ Ls.length ≤ i) ⟨[], [], _, _, _, _, rfl, O, RingsIn.none, fun x hx => by simp at hx, fun j hj => by omega, Nat.zero_le _⟩ ?_ ?_
    · clear O
      rintro i σ H' hi ⟨Ls, S, v8, v9, v10, v11, rfl, O, rI, near, front, few⟩
      walk_at "g"
      intro W hW
      replace O := Own.new (o := .dK []) O hW
      walk_at "g"
      have n0 : ((-C + (i : Int)).natAbs : Int) ≤ C := by omega
      generalize hbeg : -C + (i : Int) = n at *
      have out0 : ∀ i, i < 0 → itr (beh b k t) n i ∉ S := fun i hi => by omega
      have neWK : Kn ≠ W := fun e => by
        have nd := O.nd
        simp [e] at nd
      have eS : S = S ++ itrL (beh b k t) n 0 := (List.append_nil S).symm
      rw [eS] at O
      clear eS
      refine for_range (fun j σ H' => ∃ (v11 : Option V), σ = [some (.ref a), some (.ref row), some (.ref p), some (.ref x), some (.int (b ^ k.toNat)), some (.int C), some (.ref Du), some (.ref Kn), some (.int n), some (.int (itr (beh b k t) n j)), some (.ref W), v11] ∧ Own B [(W, trueK (itrL (beh b k t) n j)), (Kn, trueK (S ++ itrL (beh b k t) n j)), (Du, TDS Ls), (p, toldL b k t), (row, o)] H' ∧ (∀ i i', i < i' → i' < j → itr (beh b k t) n i ≠ itr (beh b k t) n i') ∧ (∀ i, i < j → itr (beh b k t) n i ∉ S)) ⟨_, rfl, O, fun i i' h1 h2 => by omega, out0⟩ ?_ ?_
      · clear O
        rintro j σ H' hj ⟨v11, rfl, O, dis, out⟩
        have nearW : ∀ x ∈ S ++ itrL (beh b k t) n j, (x.natAbs : Int) ≤ C := fun x hx => by
          rcases List.mem_append.mp hx with hx | hx
          · exact near x hx
          · obtain ⟨y, _, rfl⟩ := itrL_mem.mp hx
            exact sit n0 y
        walk_at "g"
        refine a_din ?_
        walk_at "g"
        obtain ⟨o1, hg, ho⟩ := has_K (.inl (O.get 1 rfl)) (itr (beh b k t) n j)
        refine ⟨Kn, o1, rfl, hg, ?_⟩
        rw [ho, trueK_keys]
        walk_at "g"
        refine a_it2 (fun c => ?_) (fun c => ?_)
        · walk_at "g"
          unfold L2.tBreak
          dsimp only
          walk_at "g"
          refine a_din ?_
          walk_at "g"
          obtain ⟨o2, hg2, ho2⟩ := has_K (.inl (O.get 0 rfl)) (itr (beh b k t) n j)
          refine ⟨W, o2, rfl, hg2, ?_⟩
          rw [ho2, trueK_keys]
          walk_at "g"
          refine a_it2 (fun c2 => ?_) (fun c2 => ?_)
          · obtain ⟨y, hy, e⟩ := itrL_mem.mp c2
            have wy : WayOf (beh b k t) n j y := ⟨hy, e, dis⟩
            have wy2 : WayOf (beh b k t) (itr (beh b k t) n j) (j - y) 0 := by
              rw [e]
              refine ⟨by omega, ?_, fun z z' h1 h2 => ?_⟩
              · rw [← itr_add, show y + (j - y) = j by omega, e]; rfl
              · rw [← itr_add, ← itr_add]
                exact dis _ _ (by omega) (by omega)
            have nj := sit n0 j
            walk_at "g"
            refine a_dset ?_
            walk_at "g"
            refine ⟨p, b, k, t, _, rfl, Own.sq O 3 rfl, tk, by omega, fun p1 q1 m at1 L H5 O2 wy3 hl rg => ?_⟩
            obtain ⟨rfl, rfl⟩ := wy2.one wy3
            have rg : RingOf (beh b k t) (itr (beh b k t) n y) L := e ▸ rg
            replace O := O.join O2
            walk_at "g"
            have rM := rI.more wy out rg
            refine a_putTD O 4 rfl (Own.get O 1 rfl) ?_ (by omega) _ (fun H6 O => ?_)
            · have ln := rM.ln
              rw [List.nodup_append] at ln
              exact fun z => ln.2.2 L z L (List.mem_singleton_self _) rfl
            simp only [List.cons_append, List.nil_append, List.set] at O
            replace O := O.tail.tail.tail
            refine ⟨Ls ++ [L], S ++ itrL (beh b k t) n j, _, _, _, _, rfl, O, rM, nearW, fun z hz => ?_, ?_⟩
            · by_cases e3 : z = i
              · rw [e3, hbeg]
                exact List.mem_append_right _ (itrL_mem.mpr ⟨0, by omega, rfl⟩)
              · exact List.mem_append_left _ (front z (by omega))
            · rw [List.length_append]
              show Ls.length + 1 ≤ i + 1
              omega
          · have c3 : itr (beh b k t) n j ∈ S := by
              rcases List.mem_append.mp c with c | c
              · exact c
              · exact absurd c c2
            walk_at "g"
            replace O := O.tail
            refine ⟨Ls, S ++ itrL (beh b k t) n j, _, _, _, _, rfl, O, rI.join dis out c3, nearW, fun z hz => ?_, by omega⟩
            by_cases e3 : z = i
            · rw [e3, hbeg]
              by_cases e0 : j = 0
              · subst e0; exact List.mem_append_left _ c3
              · exact List.mem_append_right _ (itrL_mem.mpr ⟨0, by omega, rfl⟩)
            · exact List.mem_append_left _ (front z (by omega))
        · have fewK := few_near (S := S ++ itrL (beh b k t) n j) (C := C.toNat) (rI.grow dis out) fun x hx => by
            have := nearW x hx
            omega
          have c2 : itr (beh b k t) n j ∉ itrL (beh b k t) n j := fun z => c (List.mem_append_right _ z)
          have fewW : (itrL (beh b k t) n j).length ≤ 10000 := by
            rw [List.length_append] at fewK
            omega
          walk_at "g"
          refine a_dset ?_
          walk_at "g"
          refine a_putK O 1 rfl (by rw [trueK_keys]; exact c) (by rw [List.length_map]; omega) _ (fun H3 O => ?_)
          simp only [List.set] at O
          walk_at "g"
          refine a_dset ?_
          walk_at "g"
          refine a_putK O 0 rfl (by rw [trueK_keys]; exact c2) (by rw [List.length_map]; omega) _ (fun H4 O => ?_)
          simp only [List.set] at O
          walk_at "g"
          refine ⟨p, b, k, t, _, rfl, Own.sq O 3 rfl, tk, ?_⟩
          walk_at "g"
          refine ⟨_, rfl, ?_, fun z z' h1 h2 => ?_, fun z hz => ?_⟩
          · rw [itrL_succ, ← List.append_assoc]
            unfold trueK
            rw [List.map_append, List.map_append (l₁ := S ++ itrL (beh b k t) n j)]
            exact O
          · by_cases e : z' = j
            · subst e
              exact fun q => c2 (itrL_mem.mpr ⟨z, h1, q.symm⟩)
            · exact dis z z' h1 (by omega)
          · by_cases e : z = j
            · subst e; exact fun q => c (List.mem_append_left _ q)
            · exact out z (by omega)
      · clear O
        rintro σ H' ⟨v11, rfl, O, dis, out⟩
        exfalso
        have z := few_near (S := itrL (beh b k t) n (9 * C + 99).toNat) (C := C.toNat) (itrL_nodup dis) fun x hx => by
          obtain ⟨y, _, rfl⟩ := itrL_mem.mp hx
          have := sit n0 y
          omega
        rw [itrL_len] at z
        omega
    · clear O
      rintro σ H' ⟨Ls, S, v8, v9, v10, v11, rfl, O, rI, near, front, few⟩
      walk_at "g"
      refine ⟨x, b, k, t, rfl, ha.up O, fun p1 ps1 B1 H5 sB1 O1 rT1 all1 st1 _ => ?_⟩
      have gDu : H5 Du = some (TDS Ls) := O1.st _ _ (sB1 _ _ (O.get 1 rfl))
      have all2 := rI.all sout fun x h1 h2 => by
        have := front (x + C).toNat (by omega)
        rw [show -C + (((x + C).toNat : Nat) : Int) = x by omega] at this
        exact this
      walk_at "g"
      refine ⟨Du, Ls.map entL, Ls, rfl, .inl gDu, entL_keys Ls, fun L hL => ?_, fun ps2 p2 e2 rT2 hp2 => ?_⟩
      · obtain ⟨x, r⟩ := (all2.rg L).mp hL
        exact r.ne
      · have O2 := Own.new (o := .lst (refs (ps2.mergeSort leT))) O1 hp2
        have eqR : ps1.map (fun q => q.2) = (ps2.mergeSort leT).map (fun q => q.2) := all1.one (all2.perm (by rw [← e2]; exact (List.mergeSort_perm ps2 leT).map _)) st1 (sort_T ps2)
        have d1 : Dp K _ (.ref p1) (pyTs (ps1.map (·.2))) := dp_pyTs (Own.sq O2 1 rfl) fun q hq => .inl (.inl (O2.st _ _ (rT1 q hq)))
        have d2 : Dp K _ (.ref p2) (pyTs ((ps2.mergeSort leT).map (·.2))) := dp_pyTs (Own.sq O2 0 rfl) fun q hq => .inl (.inl (by
          rw [upd_ne (ne_of_none (rT2 q (sort_memT.mp hq)) hp2)]
          exact rT2 q (sort_memT.mp hq)))
        rw [← eqR] at d2
        refine a_eqD d1 d2 (can_pyTs _) (dep_pyTs _) ?_
        exact h _

end
theorem all_mk {l : PySem.W.OpenLaw} {w : World} {K : Frag} {h : Heap} {mg : Str → Option Value} {fa f0 f1 f2 f3 f4 f5 f6 f7 f8 f9 f10 f11 f12 f13 f14 f15 CTrick : Addr} (X : K.In h) (G : h.Ns mainGlobals mg) (hfa : mg "law" = some (.ref fa))
    {od0 an0 : Option Addr} {sl0 : Array (Option Value)} {oc0 kV0 dc0 pm0 cd0 ct0 : Value}
    {od1 an1 : Option Addr} {sl1 : Array (Option Value)} {oc1 kV1 dc1 pm1 cd1 ct1 : Value}
    {od2 an2 : Option Addr} {sl2 : Array (Option Value)} {oc2 kV2 dc2 pm2 cd2 ct2 : Value}
    {od3 an3 : Option Addr} {sl3 : Array (Option Value)} {oc3 kV3 dc3 pm3 cd3 ct3 : Value}
    {od4 an4 : Option Addr} {sl4 : Array (Option Value)} {oc4 kV4 dc4 pm4 cd4 ct4 : Value}
    {od5 an5 : Option Addr} {sl5 : Array (Option Value)} {oc5 kV5 dc5 pm5 cd5 ct5 : Value}
    {od6 an6 : Option Addr} {sl6 : Array (Option Value)} {oc6 kV6 dc6 pm6 cd6 ct6 : Value}
    {od7 an7 : Option Addr} {sl7 : Array (Option Value)} {oc7 kV7 dc7 pm7 cd7 ct7 : Value}
    {od8 an8 : Option Addr} {sl8 : Array (Option Value)} {oc8 kV8 dc8 pm8 cd8 ct8 : Value}
    {od9 an9 : Option Addr} {sl9 : Array (Option Value)} {oc9 kV9 dc9 pm9 cd9 ct9 : Value}
    {od10 an10 : Option Addr} {sl10 : Array (Option Value)} {oc10 kV10 dc10 pm10 cd10 ct10 : Value}
    {od11 an11 : Option Addr} {sl11 : Array (Option Value)} {oc11 kV11 dc11 pm11 cd11 ct11 : Value}
    {od12 an12 : Option Addr} {sl12 : Array (Option Value)} {oc12 kV12 dc12 pm12 cd12 ct12 : Value}
    {od13 an13 : Option Addr} {sl13 : Array (Option Value)} {oc13 kV13 dc13 pm13 cd13 ct13 : Value}
    {od14 an14 : Option Addr} {sl14 : Array (Option Value)} {oc14 kV14 dc14 pm14 cd14 ct14 : Value}
    {od15 an15 : Option Addr} {sl15 : Array (Option Value)} {oc15 kV15 dc15 pm15 cd15 ct15 : Value}
    {tk_LEAST_BASE : Tok}
    {tk_MOST_BASE : Tok}
    {tk_MOST_TAKE : Tok}
    {tk_MOST_TIMES : Tok}
    (a0 : PySem.W.nsIn K mainGlobals "is_from" = some (some (.ref f0)))
    (l0 : K.lookup f0 = some ⟨oc0, od0, .func (PySem.W.fnOf "is_from" "is_from" (defArgs s_is_from) (defBody s_is_from) (defScope s_is_from) .none kV0 dc0 pm0 an0 cd0 ct0), sl0⟩)
    (c0 : PySem.W.codeIn K cd0 "is_from" = true)
    (k0 : PySem.W.keepIn K (.ref f0) = true)
    (a1 : PySem.W.nsIn K mainGlobals "need_base" = some (some (.ref f1)))
    (l1 : K.lookup f1 = some ⟨oc1, od1, .func (PySem.W.fnOf "need_base" "need_base" (defArgs s_need_base) (defBody s_need_base) (defScope s_need_base) .none kV1 dc1 pm1 an1 cd1 ct1), sl1⟩)
    (c1 : PySem.W.codeIn K cd1 "need_base" = true)
    (k1 : PySem.W.keepIn K (.ref f1) = true)
    (a2 : PySem.W.nsIn K mainGlobals "power" = some (some (.ref f2)))
    (l2 : K.lookup f2 = some ⟨oc2, od2, .func (PySem.W.fnOf "power" "power" (defArgs s_power) (defBody s_power) (defScope s_power) .none kV2 dc2 pm2 an2 cd2 ct2), sl2⟩)
    (c2 : PySem.W.codeIn K cd2 "power" = true)
    (k2 : PySem.W.keepIn K (.ref f2) = true)
    (a3 : PySem.W.findIn K (.ref CTrick) "__init__" = some (some (.ref f3)))
    (i3 : PySem.W.isFn K (.ref f3) = true)
    (l3 : K.lookup f3 = some ⟨oc3, od3, .func (PySem.W.fnOf "__init__" "Trick.__init__" (defArgs s_Trick_init) (defBody s_Trick_init) (defScope s_Trick_init) .none kV3 dc3 pm3 an3 cd3 ct3), sl3⟩)
    (c3 : PySem.W.codeIn K cd3 "Trick.__init__" = true)
    (k3 : PySem.W.keepIn K (.ref f3) = true)
    (a4 : PySem.W.nsIn K mainGlobals "need_trick" = some (some (.ref f4)))
    (l4 : K.lookup f4 = some ⟨oc4, od4, .func (PySem.W.fnOf "need_trick" "need_trick" (defArgs s_need_trick) (defBody s_need_trick) (defScope s_need_trick) .none kV4 dc4 pm4 an4 cd4 ct4), sl4⟩)
    (c4 : PySem.W.codeIn K cd4 "need_trick" = true)
    (k4 : PySem.W.keepIn K (.ref f4) = true)
    (a5 : PySem.W.nsIn K mainGlobals "behind" = some (some (.ref f5)))
    (l5 : K.lookup f5 = some ⟨oc5, od5, .func (PySem.W.fnOf "behind" "behind" (defArgs s_behind) (defBody s_behind) (defScope s_behind) .none kV5 dc5 pm5 an5 cd5 ct5), sl5⟩)
    (c5 : PySem.W.codeIn K cd5 "behind" = true)
    (k5 : PySem.W.keepIn K (.ref f5) = true)
    (a6 : PySem.W.nsIn K mainGlobals "wide_of" = some (some (.ref f6)))
    (l6 : K.lookup f6 = some ⟨oc6, od6, .func (PySem.W.fnOf "wide_of" "wide_of" (defArgs s_wide_of) (defBody s_wide_of) (defScope s_wide_of) .none kV6 dc6 pm6 an6 cd6 ct6), sl6⟩)
    (c6 : PySem.W.codeIn K cd6 "wide_of" = true)
    (k6 : PySem.W.keepIn K (.ref f6) = true)
    (a7 : PySem.W.nsIn K mainGlobals "bound_by" = some (some (.ref f7)))
    (l7 : K.lookup f7 = some ⟨oc7, od7, .func (PySem.W.fnOf "bound_by" "bound_by" (defArgs s_bound_by) (defBody s_bound_by) (defScope s_bound_by) .none kV7 dc7 pm7 an7 cd7 ct7), sl7⟩)
    (c7 : PySem.W.codeIn K cd7 "bound_by" = true)
    (k7 : PySem.W.keepIn K (.ref f7) = true)
    (a8 : PySem.W.nsIn K mainGlobals "ring_from" = some (some (.ref f8)))
    (l8 : K.lookup f8 = some ⟨oc8, od8, .func (PySem.W.fnOf "ring_from" "ring_from" (defArgs s_ring_from) (defBody s_ring_from) (defScope s_ring_from) .none kV8 dc8 pm8 an8 cd8 ct8), sl8⟩)
    (c8 : PySem.W.codeIn K cd8 "ring_from" = true)
    (k8 : PySem.W.keepIn K (.ref f8) = true)
    (a9 : PySem.W.nsIn K mainGlobals "rings" = some (some (.ref f9)))
    (l9 : K.lookup f9 = some ⟨oc9, od9, .func (PySem.W.fnOf "rings" "rings" (defArgs s_rings) (defBody s_rings) (defScope s_rings) .none kV9 dc9 pm9 an9 cd9 ct9), sl9⟩)
    (c9 : PySem.W.codeIn K cd9 "rings" = true)
    (k9 : PySem.W.keepIn K (.ref f9) = true)
    (a10 : PySem.W.nsIn K mainGlobals "_law_taken" = some (some (.ref f10)))
    (l10 : K.lookup f10 = some ⟨oc10, od10, .func (PySem.W.fnOf "_law_taken" "_law_taken" (defArgs s_law_taken) (defBody s_law_taken) (defScope s_law_taken) .none kV10 dc10 pm10 an10 cd10 ct10), sl10⟩)
    (c10 : PySem.W.codeIn K cd10 "_law_taken" = true)
    (k10 : PySem.W.keepIn K (.ref f10) = true)
    (a11 : PySem.W.nsIn K mainGlobals "_law_power" = some (some (.ref f11)))
    (l11 : K.lookup f11 = some ⟨oc11, od11, .func (PySem.W.fnOf "_law_power" "_law_power" (defArgs s_law_power) (defBody s_law_power) (defScope s_law_power) .none kV11 dc11 pm11 an11 cd11 ct11), sl11⟩)
    (c11 : PySem.W.codeIn K cd11 "_law_power" = true)
    (k11 : PySem.W.keepIn K (.ref f11) = true)
    (a12 : PySem.W.nsIn K mainGlobals "_law_trick" = some (some (.ref f12)))
    (l12 : K.lookup f12 = some ⟨oc12, od12, .func (PySem.W.fnOf "_law_trick" "_law_trick" (defArgs s_law_trick) (defBody s_law_trick) (defScope s_law_trick) .none kV12 dc12 pm12 an12 cd12 ct12), sl12⟩)
    (c12 : PySem.W.codeIn K cd12 "_law_trick" = true)
    (k12 : PySem.W.keepIn K (.ref f12) = true)
    (a13 : PySem.W.nsIn K mainGlobals "_law_behind" = some (some (.ref f13)))
    (l13 : K.lookup f13 = some ⟨oc13, od13, .func (PySem.W.fnOf "_law_behind" "_law_behind" (defArgs s_law_behind) (defBody s_law_behind) (defScope s_law_behind) .none kV13 dc13 pm13 an13 cd13 ct13), sl13⟩)
    (c13 : PySem.W.codeIn K cd13 "_law_behind" = true)
    (k13 : PySem.W.keepIn K (.ref f13) = true)
    (a14 : PySem.W.nsIn K mainGlobals "_law_ring" = some (some (.ref f14)))
    (l14 : K.lookup f14 = some ⟨oc14, od14, .func (PySem.W.fnOf "_law_ring" "_law_ring" (defArgs s_law_ring) (defBody s_law_ring) (defScope s_law_ring) .none kV14 dc14 pm14 an14 cd14 ct14), sl14⟩)
    (c14 : PySem.W.codeIn K cd14 "_law_ring" = true)
    (k14 : PySem.W.keepIn K (.ref f14) = true)
    (a15 : PySem.W.nsIn K mainGlobals "law" = some (some (.ref f15)))
    (l15 : K.lookup f15 = some ⟨oc15, od15, .func (PySem.W.fnOf "law" "law" (defArgs s_law) (defBody s_law) (defScope s_law) .none kV15 dc15 pm15 an15 cd15 ct15), sl15⟩)
    (c15 : PySem.W.codeIn K cd15 "law" = true)
    (k15 : PySem.W.keepIn K (.ref f15) = true)
    (aCTrick : PySem.W.nsIn K mainGlobals "Trick" = some (some (.ref CTrick)))
    (pgTrick : PySem.W.plainGet K CTrick Str.empty = true)
    (hdTrick : PySem.W.hasDictIn K CTrick = true)
    (poTrick : PySem.W.plainOver K CTrick = true)
    (saTrick : PySem.W.findIn K (.ref CTrick) "__setattr__" = some (some (.builtin "object.__setattr__")))
    (mkTrick : PySem.W.makesIn K CTrick = true)
    (kcTrick : PySem.W.keepIn K (.ref CTrick) = true)
    (icTrick : PySem.W.findIn K (.ref CTrick) "__class__" = some (some (.builtin "object.__class__")))
    (mcTrick : PySem.W.mroIn K CTrick (.type "object") = some true)
    (nfTrick_basis : PySem.W.findIn K (.ref CTrick) "basis" = some none)
    (nfTrick_many : PySem.W.findIn K (.ref CTrick) "many" = some none)
    (nfTrick_factor : PySem.W.findIn K (.ref CTrick) "factor" = some none)
    (nfTrick_block : PySem.W.findIn K (.ref CTrick) "block" = some none)
    (snA : PySem.W.specialIn K (.builtin "object.__class__") "__get__" = some (some (.builtin "getset_descriptor.__get__")))
    (tkA : PySem.W.takesIn K (.builtin "object.__class__") = some true)
    (v_LEAST_BASE : PySem.W.nsIn K mainGlobals "LEAST_BASE" = some (some (.int (2) tk_LEAST_BASE)))
    (v_MOST_BASE : PySem.W.nsIn K mainGlobals "MOST_BASE" = some (some (.int (16) tk_MOST_BASE)))
    (v_MOST_TAKE : PySem.W.nsIn K mainGlobals "MOST_TAKE" = some (some (.int (2) tk_MOST_TAKE)))
    (v_MOST_TIMES : PySem.W.nsIn K mainGlobals "MOST_TIMES" = some (some (.int (100) tk_MOST_TIMES)))
    (z_isinstance : PySem.W.nsIn K mainGlobals "isinstance" = some none)
    (z_int : PySem.W.nsIn K mainGlobals "int" = some none)
    (z_bool : PySem.W.nsIn K mainGlobals "bool" = some none)
    (z_range : PySem.W.nsIn K mainGlobals "range" = some none)
    (z_abs : PySem.W.nsIn K mainGlobals "abs" = some none)
    (z_tuple : PySem.W.nsIn K mainGlobals "tuple" = some none)
    (z_min : PySem.W.nsIn K mainGlobals "min" = some none)
    (z_sorted : PySem.W.nsIn K mainGlobals "sorted" = some none)
    (z_len : PySem.W.nsIn K mainGlobals "len" = some none)
    : ∃ fd : FuncData, (∀ (s : Shared) (v : Value), BindsTo s fd ⟨[v], []⟩ [("_law_script", v)]) ∧ ∀ base : Heap, K.In base → base.Ns mainGlobals mg → FnOk l.prog w K mg base CX0 5 fa fd ["_law_script"] (sp_law K) := by
  have e := hfa.symm.trans (PySem.W.mg_of X G a15)
  cases e
  have F0 := fun_mk (st := s_is_from) l0 c0 k0
  have b0 := F0.binds (ps := p_is_from) fun _ _ _ _ _ _ us hl => match us, hl with | [_, _, _], _ => rfl
  have F1 := fun_mk (st := s_need_base) l1 c1 k1
  have b1 := F1.binds (ps := p_need_base) fun _ _ _ _ _ _ us hl => match us, hl with | [_], _ => rfl
  have F2 := fun_mk (st := s_power) l2 c2 k2
  have b2 := F2.binds (ps := p_power) fun _ _ _ _ _ _ us hl => match us, hl with | [_, _], _ => rfl
  have F3 := fun_mk (st := s_Trick_init) l3 c3 k3
  have b3 := F3.binds (ps := p_Trick_init) fun _ _ _ _ _ _ us hl => match us, hl with | [_, _, _, _], _ => rfl
  have F4 := fun_mk (st := s_need_trick) l4 c4 k4
  have b4 := F4.binds (ps := p_need_trick) fun _ _ _ _ _ _ us hl => match us, hl with | [_], _ => rfl
  have F5 := fun_mk (st := s_behind) l5 c5 k5
  have b5 := F5.binds (ps := p_behind) fun _ _ _ _ _ _ us hl => match us, hl with | [_, _], _ => rfl
  have F6 := fun_mk (st := s_wide_of) l6 c6 k6
  have b6 := F6.binds (ps := p_wide_of) fun _ _ _ _ _ _ us hl => match us, hl with | [_], _ => rfl
  have F7 := fun_mk (st := s_bound_by) l7 c7 k7
  have b7 := F7.binds (ps := p_bound_by) fun _ _ _ _ _ _ us hl => match us, hl with | [_], _ => rfl
  have F8 := fun_mk (st := s_ring_from) l8 c8 k8
  have b8 := F8.binds (ps := p_ring_from) fun _ _ _ _ _ _ us hl => match us, hl with | [_, _], _ => rfl
  have F9 := fun_mk (st := s_rings) l9 c9 k9
  have b9 := F9.binds (ps := p_rings) fun _ _ _ _ _ _ us hl => match us, hl with | [_], _ => rfl
  have F10 := fun_mk (st := s_law_taken) l10 c10 k10
  have b10 := F10.binds (ps := p_law_taken) fun _ _ _ _ _ _ us hl => match us, hl with | [_, _], _ => rfl
  have F11 := fun_mk (st := s_law_power) l11 c11 k11
  have b11 := F11.binds (ps := p_law_power) fun _ _ _ _ _ _ us hl => match us, hl with | [_, _], _ => rfl
  have F12 := fun_mk (st := s_law_trick) l12 c12 k12
  have b12 := F12.binds (ps := p_law_trick) fun _ _ _ _ _ _ us hl => match us, hl with | [_, _], _ => rfl
  have F13 := fun_mk (st := s_law_behind) l13 c13 k13
  have b13 := F13.binds (ps := p_law_behind) fun _ _ _ _ _ _ us hl => match us, hl with | [_, _], _ => rfl
  have F14 := fun_mk (st := s_law_ring) l14 c14 k14
  have b14 := F14.binds (ps := p_law_ring) fun _ _ _ _ _ _ us hl => match us, hl with | [_, _], _ => rfl
  have F15 := fun_mk (st := s_law) l15 c15 k15
  have b15 := F15.binds (ps := p_law) fun _ _ _ _ _ _ us hl => match us, hl with | [_], _ => rfl
  have T : Txt K mg ⟨f0, _, f1, _, f2, _, f3, _, f4, _, f5, _, f6, _, f7, _, f8, _, f9, _, f10, _, f11, _, f12, _, f13, _, f14, _, fa, _, CTrick⟩ :=
    { F_is_from := F0,
      b_is_from := b0,
      g_is_from := PySem.W.mg_of X G a0,
      F_need_base := F1,
      b_need_base := b1,
      g_need_base := PySem.W.mg_of X G a1,
      F_power := F2,
      b_power := b2,
      g_power := PySem.W.mg_of X G a2,
      F_Trick_init := F3,
      b_Trick_init := b3,
      F_need_trick := F4,
      b_need_trick := b4,
      g_need_trick := PySem.W.mg_of X G a4,
      F_behind := F5,
      b_behind := b5,
      g_behind := PySem.W.mg_of X G a5,
      F_wide_of := F6,
      b_wide_of := b6,
      g_wide_of := PySem.W.mg_of X G a6,
      F_bound_by := F7,
      b_bound_by := b7,
      g_bound_by := PySem.W.mg_of X G a7,
      F_ring_from := F8,
      b_ring_from := b8,
      g_ring_from := PySem.W.mg_of X G a8,
      F_rings := F9,
      b_rings := b9,
      g_rings := PySem.W.mg_of X G a9,
      F_law_taken := F10,
      b_law_taken := b10,
      g_law_taken := PySem.W.mg_of X G a10,
      F_law_power := F11,
      b_law_power := b11,
      g_law_power := PySem.W.mg_of X G a11,
      F_law_trick := F12,
      b_law_trick := b12,
      g_law_trick := PySem.W.mg_of X G a12,
      F_law_behind := F13,
      b_law_behind := b13,
      g_law_behind := PySem.W.mg_of X G a13,
      F_law_ring := F14,
      b_law_ring := b14,
      g_law_ring := PySem.W.mg_of X G a14,
      F_law := F15,
      b_law := b15,
      g_law := PySem.W.mg_of X G a15,
      g_Trick := PySem.W.mg_of X G aCTrick,
      cl_Trick := ⟨pgTrick, hdTrick, poTrick, saTrick⟩,
      is_Trick := ⟨⟨pgTrick, hdTrick, poTrick, saTrick⟩, icTrick, snA, tkA, mcTrick, if_pos (beq_self_eq_true _)⟩,
      M_Trick := ⟨mkTrick, a3, i3, kcTrick⟩,
      nf_Trick_basis := nfTrick_basis,
      nf_Trick_many := nfTrick_many,
      nf_Trick_factor := nfTrick_factor,
      nf_Trick_block := nfTrick_block,
      v_LEAST_BASE := ⟨_, PySem.W.mg_of X G v_LEAST_BASE⟩,
      v_MOST_BASE := ⟨_, PySem.W.mg_of X G v_MOST_BASE⟩,
      v_MOST_TAKE := ⟨_, PySem.W.mg_of X G v_MOST_TAKE⟩,
      v_MOST_TIMES := ⟨_, PySem.W.mg_of X G v_MOST_TIMES⟩,
      n_isinstance := PySem.W.mg_none_of X G z_isinstance,
      n_int := PySem.W.mg_none_of X G z_int,
      n_bool := PySem.W.mg_none_of X G z_bool,
      n_range := PySem.W.mg_none_of X G z_range,
      n_abs := PySem.W.mg_none_of X G z_abs,
      n_tuple := PySem.W.mg_none_of X G z_tuple,
      n_min := PySem.W.mg_none_of X G z_min,
      n_sorted := PySem.W.mg_none_of X G z_sorted,
      n_len := PySem.W.mg_none_of X G z_len }
  exact ⟨_, fun s v => .of_eq rfl, fun base _ _ => ok_law T⟩
theorem walk {l : PySem.W.OpenLaw} {q : Program} {loose : List Str} {XP : (Str → Option Value) → Heap → Prop} {YP : World → Heap → Prop} {d : DefRec} {K : Params → Frag} (hn : l.most = some 63) (hdf : d.params.defaults = [])
    (hY : ∀ (w : World) (h : Heap), YP w h → (K w.params).In h)
    (F : ∀ (w : World) (mg : Str → Option Value) (fa : Addr) (h : Heap), (K w.params).In h → h.Ns mainGlobals mg → mg d.name = some (.ref fa) →
      ∃ fd : FuncData, (∀ (s : Shared) (u : Value), BindsTo s fd ⟨[u], []⟩ [("_law_script", u)]) ∧ ∀ base : Heap, (K w.params).In base → base.Ns mainGlobals mg → FnOk l.prog w (K w.params) mg base CX0 5 fa fd ["_law_script"] (sp_law (K w.params))) :
    PySem.W.WalkO q loose XP YP l.row.toRowW d [] (fun f vs => PySem.call f vs) :=
  L2.walk_of (n := 63) (k := 5) (x := "_law_script") (CX := fun _ => CX0) (sp := fun w => sp_law (K w.params)) hn (by decide) hdf ⟨rfl, by decide, by decide⟩ hY F (fun _ _ a ns hl _ hS => ⟨a, ns, rfl, hS, hl, fun _ => rfl⟩) fun _ _ _ _ _ z => z
end Toy

open PySem PySem.W PyProof.Rows
set_option maxRecDepth 100000 in
set_option maxHeartbeats 0 in
theorem PySem.Challenge.cw_resttricks_k13_whole_rings_holds : PySem.Challenge.rw_resttricks_k13_whole_rings.Holds := by
  w_on; o_law; k_head; (case hw => w_witness2)
  k_fill
  refine Toy.walk (l := PySem.Challenge.rw_resttricks_k13_whole_rings) rfl rfl (fun w h Y => PySem.W.kIn_of Y) ?F
  case F =>
    intro w mg fa h KX G hmg
    refine' Toy.all_mk KX G hmg ?a0 ?l0 ?c0 ?k0 ?a1 ?l1 ?c1 ?k1 ?a2 ?l2 ?c2 ?k2 ?a3 ?i3 ?l3 ?c3 ?k3 ?a4 ?l4 ?c4 ?k4 ?a5 ?l5 ?c5 ?k5 ?a6 ?l6 ?c6 ?k6 ?a7 ?l7 ?c7 ?k7 ?a8 ?l8 ?c8 ?k8 ?a9 ?l9 ?c9 ?k9 ?a10 ?l10 ?c10 ?k10 ?a11 ?l11 ?c11 ?k11 ?a12 ?l12 ?c12 ?k12 ?a13 ?l13 ?c13 ?k13 ?a14 ?l14 ?c14 ?k14 ?a15 ?l15 ?c15 ?k15 ?aCTrick ?pgTrick ?hdTrick ?poTrick ?saTrick ?mkTrick ?kcTrick ?icTrick ?mcTrick ?nfTrick_basis ?nfTrick_many ?nfTrick_factor ?nfTrick_block ?snA ?tkA ?v_LEAST_BASE ?v_MOST_BASE ?v_MOST_TAKE ?v_MOST_TIMES ?z_isinstance ?z_int ?z_bool ?z_range ?z_abs ?z_tuple ?z_min ?z_sorted ?z_len
    (case aCTrick => k_is)
    (case a0 => k_is)
    (case l0 => k_is)
    (case c0 => k_is)
    (case k0 => k_is)
    (case a1 => k_is)
    (case l1 => k_is)
    (case c1 => k_is)
    (case k1 => k_is)
    (case a2 => k_is)
    (case l2 => k_is)
    (case c2 => k_is)
    (case k2 => k_is)
    (case a3 => k_is)
    (case i3 => k_is)
    (case l3 => k_is)
    (case c3 => k_is)
    (case k3 => k_is)
    (case a4 => k_is)
    (case l4 => k_is)
    (case c4 => k_is)
    (case k4 => k_is)
    (case a5 => k_is)
    (case l5 => k_is)
    (case c5 => k_is)
    (case k5 => k_is)
    (case a6 => k_is)
    (case l6 => k_is)
    (case c6 => k_is)
    (case k6 => k_is)
    (case a7 => k_is)
    (case l7 => k_is)
    (case c7 => k_is)
    (case k7 => k_is)
    (case a8 => k_is)
    (case l8 => k_is)
    (case c8 => k_is)
    (case k8 => k_is)
    (case a9 => k_is)
    (case l9 => k_is)
    (case c9 => k_is)
    (case k9 => k_is)
    (case a10 => k_is)
    (case l10 => k_is)
    (case c10 => k_is)
    (case k10 => k_is)
    (case a11 => k_is)
    (case l11 => k_is)
    (case c11 => k_is)
    (case k11 => k_is)
    (case a12 => k_is)
    (case l12 => k_is)
    (case c12 => k_is)
    (case k12 => k_is)
    (case a13 => k_is)
    (case l13 => k_is)
    (case c13 => k_is)
    (case k13 => k_is)
    (case a14 => k_is)
    (case l14 => k_is)
    (case c14 => k_is)
    (case k14 => k_is)
    (case a15 => k_is)
    (case l15 => k_is)
    (case c15 => k_is)
    (case k15 => k_is)
    (case pgTrick => k_is)
    (case hdTrick => k_is)
    (case poTrick => k_is)
    (case saTrick => k_is)
    (case mkTrick => k_is)
    (case kcTrick => k_is)
    (case icTrick => k_is)
    (case mcTrick => k_is)
    (case nfTrick_basis => k_is)
    (case nfTrick_many => k_is)
    (case nfTrick_factor => k_is)
    (case nfTrick_block => k_is)
    (case snA => k_is)
    (case tkA => k_is)
    (case v_LEAST_BASE => k_is)
    (case v_MOST_BASE => k_is)
    (case v_MOST_TAKE => k_is)
    (case v_MOST_TIMES => k_is)
    (case z_isinstance => k_is)
    (case z_int => k_is)
    (case z_bool => k_is)
    (case z_range => k_is)
    (case z_abs => k_is)
    (case z_tuple => k_is)
    (case z_min => k_is)
    (case z_sorted => k_is)
    (case z_len => k_is)
