import PyProof.Rows.All
import Wide.All
import OpenK.AllK
import Wide.FinOn
import HandS.ForMost
import HandS.IsInst
import HandS.Wide
import HandS.Steps
import HandS.Style
import HandS.TupAny
import HandS.Codes
import HandS.SortInts
import HandS.TryOnly
import HandS.TryMany
import HandS.ExcOwn
import HandS.ExcInit
import HandS.ExcField
import HandS.ExcIs
import HandS.WordsExc
import HandS.DeepEq
import HandS.Walk
import KE.GoesEnum
import HandS.Property
import HandS.FStr
import HandS.StrMore
import PyProof.StrLawsTight
import PyProof.StrLawsChain
import PyProof.StrBlock2
import KE.KIntText
import PySem.Challenge.RW_resttricks_k38_texts
set_option Elab.async false
set_option linter.all false
set_option maxRecDepth 100000
set_option maxHeartbeats 4000000
/-! ## the layer: what is owned, step by step -/
namespace R
open PySem PySem.Spec PyProof.Rows L2
open PySem.W (Frag)

def del1 (H : Hp) (a : Addr) : Hp := fun b => if b = a then none else H b
/-- B: what stays; Lw: what this frame may change, as it stands -/
structure Own (B : Hp) (Lw : List (Addr × HO)) (H : Hp) : Prop where
  st : ∀ a o, B a = some o → H a = some o
  ow : ∀ p ∈ Lw, H p.1 = some p.2
  no : ∀ p ∈ Lw, B p.1 = none
  nd : (Lw.map (·.1)).Nodup
theorem Own.refl (H : Hp) : Own H [] H := ⟨fun _ _ h => h, fun _ h => by simp at h, fun _ h => by simp at h, by simp⟩
theorem Own.refl1 {H : Hp} {a : Addr} {o : HO} (h : H a = some o) : Own (del1 H a) [(a, o)] H := by
  refine ⟨fun b u e => ?_, fun p hp => ?_, fun p hp => ?_, by simp⟩
  · unfold del1 at e
    split at e
    · cases e
    · exact e
  · have e : p = (a, o) := by simpa using hp
    rw [e]; exact h
  · have e : p = (a, o) := by simpa using hp
    rw [e]; unfold del1; rw [if_pos rfl]
section
variable {B H H' : Hp} {Lw : List (Addr × HO)} {a b p : Addr} {o u : HO} {K : Frag} {xs : List V}
theorem Own.get (O : Own B Lw H) (i : Nat) (h : Lw[i]? = some (a, o)) : H a = some o := O.ow (a, o) (List.mem_of_getElem? h)
theorem Own.gone (O : Own B Lw H) (i : Nat) (h : Lw[i]? = some (a, o)) : B a = none := O.no (a, o) (List.mem_of_getElem? h)
theorem Own.seq (O : Own B Lw H) (h : SqL K B a xs) : SqL K H a xs := by
  rcases h with (h | ⟨q, h⟩) | h
  · exact .inl (.inl (O.st _ _ h))
  · exact .inl (.inr ⟨q, O.st _ _ h⟩)
  · exact .inr h
theorem Own.tup (O : Own B Lw H) (h : SqT K B a xs) : SqT K H a xs := by
  rcases h with (h | ⟨q, h⟩) | h
  · exact .inl (.inl (O.st _ _ h))
  · exact .inl (.inr ⟨q, O.st _ _ h⟩)
  · exact .inr h
theorem Own.sq (O : Own B Lw H) (i : Nat) (h : Lw[i]? = some (a, .lst xs)) : SqL K H a xs := SqL.of (O.get i h)
theorem Own.tq (O : Own B Lw H) (i : Nat) (h : Lw[i]? = some (a, .tup xs)) : SqT K H a xs := SqT.of (O.get i h)
theorem Own.free (O : Own B Lw H) (h : H p = none) : B p = none := by
  cases q : B p with
  | none => rfl
  | some v => rw [O.st _ _ q] at h; cases h
theorem Own.out (O : Own B Lw H) (h : H p = none) : ∀ q ∈ Lw, q.1 ≠ p := fun q hq z => by
  have e := O.ow q hq
  rw [z, h] at e; cases e
/-- a new object -/
theorem Own.new (O : Own B Lw H) (h : H p = none) : Own B ((p, o) :: Lw) (upd H p o) := by
  refine ⟨fun c v e => ?_, fun q hq => ?_, fun q hq => ?_, ?_⟩
  · rw [upd_ne (ne_of_none (O.st _ _ e) h)]; exact O.st _ _ e
  · rcases List.mem_cons.mp hq with rfl | hq
    · exact upd_same
    · show upd H p o q.1 = _
      rw [upd_ne (O.out h q hq)]; exact O.ow q hq
  · rcases List.mem_cons.mp hq with rfl | hq
    · exact O.free h
    · exact O.no q hq
  · rw [List.map_cons, List.nodup_cons]
    refine ⟨fun z => ?_, O.nd⟩
    obtain ⟨q, hq, e⟩ := List.mem_map.mp z
    exact O.out h q hq e
theorem set_map1 : ∀ {Lw : List (Addr × HO)} {i : Nat} {a : Addr} {o o' : HO}, Lw[i]? = some (a, o) → (Lw.set i (a, o')).map (·.1) = Lw.map (·.1)
  | [], _, _, _, _, h => by simp at h
  | x :: r, 0, a, o, o', h => by
    have e : x = (a, o) := by simpa using h
    rw [e]; rfl
  | x :: r, i + 1, a, o, o', h => by
    have ih := set_map1 (Lw := r) (i := i) (o' := o') (by simpa using h)
    show x.1 :: (r.set i (a, o')).map (·.1) = x.1 :: r.map (·.1)
    rw [ih]
theorem mem_set1 : ∀ {Lw : List (Addr × HO)} {i : Nat} {a : Addr} {o o' : HO} {q : Addr × HO}, (Lw.map (·.1)).Nodup → Lw[i]? = some (a, o) → q ∈ Lw.set i (a, o') → q = (a, o') ∨ (q ∈ Lw ∧ q.1 ≠ a)
  | [], _, _, _, _, _, _, h, _ => by simp at h
  | x :: r, 0, a, o, o', q, nd, h, hq => by
    have e : x = (a, o) := by simpa using h
    subst e
    rw [List.map_cons, List.nodup_cons] at nd
    rcases List.mem_cons.mp hq with rfl | hq
    · exact .inl rfl
    · exact .inr ⟨List.mem_cons_of_mem _ hq, fun z => nd.1 (List.mem_map.mpr ⟨q, hq, z⟩)⟩
  | x :: r, i + 1, a, o, o', q, nd, h, hq => by
    rw [List.map_cons, List.nodup_cons] at nd
    have h' : r[i]? = some (a, o) := by simpa using h
    rcases List.mem_cons.mp (show q ∈ x :: r.set i (a, o') from hq) with rfl | hq
    · refine .inr ⟨List.mem_cons_self, fun z => nd.1 (List.mem_map.mpr ⟨(a, o), List.mem_of_getElem? h', z.symm⟩)⟩
    · rcases mem_set1 nd.2 h' hq with z | ⟨z1, z2⟩
      · exact .inl z
      · exact .inr ⟨List.mem_cons_of_mem _ z1, z2⟩
/-- what is owned is changed by someone who keeps all else -/
theorem Own.but (O : Own B Lw H) (i : Nat) (h : Lw[i]? = some (a, o)) (k : ∀ b v, b ≠ a → H b = some v → H' b = some v) (ha : H' a = some u) : Own B (Lw.set i (a, u)) H' := by
  have hB := O.gone i h
  refine ⟨fun c v e => k c v (fun z => ?_) (O.st _ _ e), fun q hq => ?_, fun q hq => ?_, ?_⟩
  · rw [z, hB] at e; cases e
  · rcases mem_set1 O.nd h hq with rfl | ⟨h1, h2⟩
    · exact ha
    · exact k _ _ h2 (O.ow q h1)
  · rcases mem_set1 O.nd h hq with rfl | ⟨h1, h2⟩
    · exact hB
    · exact O.no q h1
  · rw [set_map1 h]; exact O.nd
theorem Own.put (O : Own B Lw H) (i : Nat) (h : Lw[i]? = some (a, o)) : Own B (Lw.set i (a, u)) (upd H a u) :=
  O.but i h (fun b v hb e => by rw [upd_ne hb]; exact e) upd_same
/-- more stands now -/
theorem Own.same (O : Own B Lw H) (s : Same H H') : Own B Lw H' := ⟨fun c v e => s _ _ (O.st _ _ e), fun q hq => s _ _ (O.ow q hq), O.no, O.nd⟩
theorem Own.tail {x : Addr × HO} (O : Own B (x :: Lw) H) : Own B Lw H := ⟨O.st, fun q hq => O.ow q (List.mem_cons_of_mem _ hq), fun q hq => O.no q (List.mem_cons_of_mem _ hq), (List.nodup_cons.mp (by simpa using O.nd)).2⟩
theorem Own.tail2 {x y : Addr × HO} (O : Own B (y :: x :: Lw) H) : Own B (y :: Lw) H := by
  have hn := O.nd
  simp only [List.map_cons, List.nodup_cons, List.mem_cons, not_or] at hn
  refine ⟨O.st, fun q hq => O.ow q ?_, fun q hq => O.no q ?_, ?_⟩
  · rcases List.mem_cons.mp hq with rfl | hq
    · exact List.mem_cons_self
    · exact List.mem_cons_of_mem _ (List.mem_cons_of_mem _ hq)
  · rcases List.mem_cons.mp hq with rfl | hq
    · exact List.mem_cons_self
    · exact List.mem_cons_of_mem _ (List.mem_cons_of_mem _ hq)
  · simp only [List.map_cons, List.nodup_cons]
    exact ⟨hn.1.2, hn.2.2⟩
theorem Own.toSame (O : Own H Lw H') : Same H H' := O.st
/-- at the end: all but a is as it was -/
theorem Own.toBut (O : Own (del1 H a) Lw H') : ∀ b v, b ≠ a → H b = some v → H' b = some v := fun b v hb e => O.st b v (by unfold del1; rw [if_neg hb]; exact e)
theorem del1_seq {o : HO} (h : SqL K H b xs) (ha : H a = some o) (ho : ∀ ys, o ≠ .lst ys ∨ b ≠ a) (hf : ∀ q w, o ≠ .frz q w) (hb : b ≠ a) : SqL K (del1 H a) b xs := by
  rcases h with (h | ⟨q, h⟩) | h
  · exact .inl (.inl (by unfold del1; rw [if_neg hb]; exact h))
  · exact .inl (.inr ⟨q, by unfold del1; rw [if_neg hb]; exact h⟩)
  · exact .inr h
theorem del1_ne {H : Hp} {a b : Addr} (h : b ≠ a) : del1 H a b = H b := by unfold del1; rw [if_neg h]
end
end R
namespace R
open PySem L2
theorem Own.swap {B H : Hp} {Lw : List (Addr × HO)} {x y : Addr × HO} (O : Own B (x :: y :: Lw) H) : Own B (y :: x :: Lw) H := by
  refine ⟨O.st, fun q hq => O.ow q ?_, fun q hq => O.no q ?_, ?_⟩
  · simp only [List.mem_cons] at hq ⊢
    rcases hq with z | z | z
    · exact .inr (.inl z)
    · exact .inl z
    · exact .inr (.inr z)
  · simp only [List.mem_cons] at hq ⊢
    rcases hq with z | z | z
    · exact .inr (.inl z)
    · exact .inl z
    · exact .inr (.inr z)
  · have h := O.nd
    simp only [List.map_cons, List.nodup_cons, List.mem_cons, not_or] at h ⊢
    exact ⟨⟨fun z => h.1.1 z.symm, h.2.1⟩, h.1.2, h.2.2⟩
end R
namespace R
open PySem L2
open PySem.W (Frag)
section
variable {B H H' : Hp} {Lw : List (Addr × HO)} {p : Addr} {o : HO} {K : Frag}
/-- what is owned is let stand for good -/
theorem Own.fix (O : Own B ((p, o) :: Lw) H) : Own (upd B p o) Lw H := by
  have hn := O.nd
  simp only [List.map_cons, List.nodup_cons] at hn
  refine ⟨fun a v e => ?_, fun q hq => O.ow q (List.mem_cons_of_mem _ hq), fun q hq => ?_, hn.2⟩
  · by_cases h : a = p
    · subst h
      rw [upd_same] at e
      rw [← e]
      exact O.ow (a, o) List.mem_cons_self
    · rw [upd_ne h] at e; exact O.st _ _ e
  · have ne : q.1 ≠ p := fun z => hn.1 (List.mem_map.mpr ⟨q, hq, z⟩)
    rw [upd_ne ne]; exact O.no q (List.mem_cons_of_mem _ hq)
theorem Own.fixS (O : Own B ((p, o) :: Lw) H) : Same B (upd B p o) := fun b v e => by
  have h : B p = none := O.no (p, o) List.mem_cons_self
  rw [upd_ne (ne_of_none e h)]; exact e
theorem Own.sub {B' : Hp} (O : Own B' Lw H) (s : Same B B') : Own B Lw H := ⟨fun a v e => O.st _ _ (s _ _ e), O.ow, fun q hq => s.free (O.no q hq), O.nd⟩
end
mutual
theorem dp_same {K : Frag} {H H' : Hp} (s : Same H H') : ∀ (d : PyData) (v : V), Dp K H v d → Dp K H' v d
  | .none, _, h => by cases h; exact .non
  | .bool b, _, h => by cases h; exact .bl b
  | .int i, _, h => by cases h; exact .int i
  | .str x, _, h => by cases h; exact .str x
  | .list ds, _, h => by
    cases h with
    | lst h1 h2 => exact .lst (s.seq h1) (dpAll_same s ds _ h2)
  | .tuple ds, _, h => by
    cases h with
    | tup h1 h2 =>
      refine .tup ?_ (dpAll_same s ds _ h2)
      rcases h1 with (h | ⟨q, h⟩) | h
      · exact .inl (.inl (s _ _ h))
      · exact .inl (.inr ⟨q, s _ _ h⟩)
      · exact .inr h
  | .dict _, _, h => by cases h
theorem dpAll_same {K : Frag} {H H' : Hp} (s : Same H H') : ∀ (ds : List PyData) (vs : List V), DpAll K H vs ds → DpAll K H' vs ds
  | [], _, h => by cases h; exact .nil
  | d :: ds, _, h => by
    cases h with
    | cons h1 h2 => exact .cons (dp_same s d _ h1) (dpAll_same s ds _ h2)
end
end R
namespace R
open PySem L2
theorem Own.got {B H H' : Hp} {Lw : List (Addr × HO)} {p : Addr} {o : HO} (O : Own B Lw H) (s : Same H H') (h : H p = none) (h' : H' p = some o) : Own B ((p, o) :: Lw) H' := by
  have O1 := O.same s
  refine ⟨O1.st, fun q hq => ?_, fun q hq => ?_, ?_⟩
  · rcases List.mem_cons.mp hq with rfl | hq
    · exact h'
    · exact O1.ow q hq
  · rcases List.mem_cons.mp hq with rfl | hq
    · exact O.free h
    · exact O1.no q hq
  · rw [List.map_cons, List.nodup_cons]
    refine ⟨fun z => ?_, O.nd⟩
    obtain ⟨q, hq, e⟩ := List.mem_map.mp z
    exact O.out h q hq e
end R
namespace R
open PySem L2
theorem Own.butNew {B H H' : Hp} {Lw : List (Addr × HO)} {a p : Addr} {o u v : HO} (O : Own B Lw H) (i : Nat) (h : Lw[i]? = some (a, o)) (k : ∀ b v, b ≠ a → H b = some v → H' b = some v) (ha : H' a = some u) (hp : H p = none) (hv : H' p = some v) : Own B ((p, v) :: Lw.set i (a, u)) H' := by
  have O1 := O.but i h k ha
  refine ⟨O1.st, fun q hq => ?_, fun q hq => ?_, ?_⟩
  · rcases List.mem_cons.mp hq with rfl | hq
    · exact hv
    · exact O1.ow q hq
  · rcases List.mem_cons.mp hq with rfl | hq
    · exact O.free hp
    · exact O1.no q hq
  · rw [List.map_cons, List.nodup_cons]
    refine ⟨fun z => ?_, O1.nd⟩
    rw [set_map1 h] at z
    obtain ⟨q, hq, e⟩ := List.mem_map.mp z
    exact O.out hp q hq e
/-- what is new to the owner was new ahead of its changes -/
theorem Own.was {H H0 : Hp} {Lw : List (Addr × HO)} {a p : Addr} {o : HO} (O : Own (del1 H0 a) Lw H) (ha : H0 a = some o) (hl : ∃ (i : Nat) (u : HO), Lw[i]? = some (a, u)) (hp : H p = none) : H0 p = none := by
  cases e : H0 p with
  | none => rfl
  | some w =>
    by_cases z : p = a
    · obtain ⟨i, u, h⟩ := hl
      have q := O.get i h
      rw [← z, hp] at q
      cases q
    · have q := O.st p w (by unfold del1; rw [if_neg z]; exact e)
      rw [hp] at q
      cases q
end R
namespace R
open PySem L2
theorem Own.less {B H : Hp} {Lw Lw' : List (Addr × HO)} (O : Own B Lw H) (s : Lw'.Sublist Lw) : Own B Lw' H :=
  ⟨O.st, fun q hq => O.ow q (s.subset hq), fun q hq => O.no q (s.subset hq), O.nd.sublist (s.map _)⟩
theorem Own.drop {B H : Hp} {Lw : List (Addr × HO)} (O : Own B Lw H) (n : Nat) : Own B (Lw.drop n) H := O.less (List.drop_sublist n Lw)
end R
namespace R
open PySem L2
theorem Own.perm {B H : Hp} {Lw Lw' : List (Addr × HO)} (O : Own B Lw H) (p : Lw'.Perm Lw) : Own B Lw' H :=
  ⟨O.st, fun q hq => O.ow q (p.mem_iff.mp hq), fun q hq => O.no q (p.mem_iff.mp hq), ((p.map _).nodup_iff).mpr O.nd⟩
/-- what a call has laid anew, beside what is owned -/
theorem Own.join {B H H' : Hp} {Lw New : List (Addr × HO)} (O : Own B Lw H) (O2 : Own H New H') : Own B (New ++ Lw) H' := by
  refine ⟨fun a u e => O2.st _ _ (O.st _ _ e), fun q hq => ?_, fun q hq => ?_, ?_⟩
  · rcases List.mem_append.mp hq with hq | hq
    · exact O2.ow q hq
    · exact O2.st _ _ (O.ow q hq)
  · rcases List.mem_append.mp hq with hq | hq
    · exact O.free (O2.no q hq)
    · exact O.no q hq
  · rw [List.map_append, List.nodup_append]
    refine ⟨O2.nd, O.nd, fun a ha b hb e => ?_⟩
    obtain ⟨q, hq, rfl⟩ := List.mem_map.mp ha
    obtain ⟨r, hr, rfl⟩ := List.mem_map.mp hb
    have z := O.ow r hr
    rw [← e, O2.no q hq] at z
    cases z
/-- the first ones are let stand for good -/
theorem Own.fixTo {H : Hp} {Lw : List (Addr × HO)} : ∀ {New : List (Addr × HO)} {B : Hp}, Own B (New ++ Lw) H → ∃ B', Same B B' ∧ Own B' Lw H ∧ ∀ q ∈ New, B' q.1 = some q.2
  | [], B, O => ⟨B, Same.refl B, O, fun _ h => by simp at h⟩
  | (p, u) :: New, B, O => by
    have O1 : Own B ((p, u) :: (New ++ Lw)) H := O
    obtain ⟨B', s, O', h⟩ := Own.fixTo (O1.fix)
    refine ⟨B', O1.fixS.trans s, O', fun q hq => ?_⟩
    rcases List.mem_cons.mp hq with rfl | hq
    · exact s _ _ upd_same
    · exact h q hq
end R

namespace R
open PySem PySem.Spec PyProof.Rows L2
open PySem.W (Frag)
/-! ### rules of our own -/
theorem op_mulX {X : Cx} : OpR X (binaryOp .Mult) (rI IntMulOk fun i j => .int (i * j)) := opI fun _ _ _ _ _ _ _ hc q => mul_int q hc
theorem mx_l {i j : Int} (h1 : -(2 ^ 64) < i) (h2 : i < 2 ^ 64) : IntMulOk i j := CMul.ok (.inl ⟨h1, h2⟩)
theorem mx_r {i j : Int} (h1 : -(2 ^ 64) < j) (h2 : j < 2 ^ 64) : IntMulOk i j := CMul.ok (.inr ⟨h1, h2⟩)
theorem pe_globI {X : Cx} {x : Str} {i : Int} {pos : Pos} (hg : Gl X x) (hm : ∃ t, X.mg x = some (.int i t)) (hd : (x == ("__debug__" : Str)) = false := by decide) : PE X (.Name x pos) (tC (.int i)) := by
  obtain ⟨t, h⟩ := hm
  exact pe_glob hg h ⟨t, rfl⟩ hd
/-- len, tuple(..), list(..) of a list or tuple -/
def rLen (K : Frag) : List V → Hp → VK → Prop := fun xs H Q => ∃ p ys, xs = [.ref p] ∧ (SqL K H p ys ∨ SqT K H p ys) ∧ Q (.int ys.length) H
theorem call_lenR {X : Cx} : CallR X (.builtin "len") (rLen X.K) := call_len_seq
def rAbs : List V → Hp → VK → Prop := fun xs H Q => ∃ i, xs = [.int i] ∧ Q (.int (if i < 0 then -i else i)) H
theorem call_absR {X : Cx} : CallR X (.builtin "abs") rAbs := call_abs
def rTupOf (K : Frag) : List V → Hp → VK → Prop := fun xs H Q => ∃ p ys, xs = [.ref p] ∧ ((SqL K H p ys ∧ ∀ l, H l = none → Q (.ref l) (upd H l (.tup ys))) ∨ (SqT K H p ys ∧ Q (.ref p) H))
theorem call_tupR {X : Cx} : CallR X (.type "tuple") (rTupOf X.K) := call_tuple_of
def rLstOf (K : Frag) : List V → Hp → VK → Prop := fun xs H Q => ∃ p ys, xs = [.ref p] ∧ (SqL K H p ys ∨ SqT K H p ys) ∧ ∀ l, H l = none → Q (.ref l) (upd H l (.lst ys))
theorem call_lstR {X : Cx} : CallR X (.type "list") (rLstOf X.K) := call_list_of
/-! ### the steps -/
/-- a new list, a new tuple -/
def NewL (xs : List V) (H : Hp) (Q : VK) : Prop := xs.length ≤ sizeLine ∧ ∀ p, H p = none → Q (.ref p) (upd H p (.lst xs))
def NewT (xs : List V) (H : Hp) (Q : VK) : Prop := xs.length ≤ sizeLine ∧ ∀ p, H p = none → Q (.ref p) (upd H p (.tup xs))
section
variable {t u : TS} {D : Ends} {σ : L2.St} {H : Hp} {te ta tb tc : TE} {g : TG} {c d : TT} {Q : VK} {v x y : V} {i : Nat} {r r' : R2} {QB : Bool → Hp → Prop} {QL : List V → Hp → Prop} {K : Frag} {tr : TA} {tl th : TO}
theorem a_seq (h : t { D with nx := u D } σ H) : tSeq t u D σ H := h
theorem a_next (h : D.nx σ H) : tNext D σ H := h
theorem a_asg (h : te σ H fun x H1 => g x σ H1 D.nx) : tAsg te g D σ H := h
theorem a_gname {Qs : L2.St → Hp → Prop} (h : Qs (σ.set i (some v)) H) : gName i v σ H Qs := h
theorem a_drop (h : te σ H fun _ H1 => D.nx σ H1) : tDrop te D σ H := h
theorem a_ret (h : te σ H D.rt) : tRet te D σ H := h
theorem a_retN (h : D.rt .non H) : tRetN D σ H := h
theorem a_if (h : c σ H fun b H1 => if b = true then t D σ H1 else u D σ H1) : tIfS c t u D σ H := h
theorem a_var (e : σ[i]? = some (some v)) (h : Q v H) : tVar i σ H Q := ⟨v, e, h⟩
theorem a_c (h : Q v H) : tC v σ H Q := h
theorem a_op (h : ta σ H fun x H1 => tb σ H1 fun y H2 => r x y H2 Q) : tOp r ta tb σ H Q := h
theorem a_un {f : V → Hp → VK → Prop} (h : ta σ H fun x H1 => f x H1 Q) : tUn f ta σ H Q := h
theorem a_neg {n : Int} (h : Q (.int (-n)) H) : rU (fun i => .int (-i)) (.int n) H Q := ⟨n, rfl, h⟩
theorem a_test (h : te σ H fun x H' => ∃ k, x = .bl k ∧ QB k H') : tTest te σ H QB := h
theorem a_tB (h : te σ H fun x H' => ∃ k, x = .bl k ∧ QB k H') : tB te σ H QB := h
theorem a_bk {b : Bool} (h : QB b H) : ∃ k, V.bl b = .bl k ∧ QB k H := ⟨b, rfl, h⟩
theorem a_and (h : c σ H fun b H1 => if b = true then d σ H1 QB else QB false H1) : tAnd c d σ H QB := h
theorem a_or (h : c σ H fun b H1 => if b = true then QB true H1 else d σ H1 QB) : tOr c d σ H QB := h
theorem a_not (h : c σ H fun b H1 => QB (!b) H1) : tNot c σ H QB := h
theorem a_andV (h : ta σ H fun x H1 => ∃ b, x = .bl b ∧ if b = true then tb σ H1 Q else Q (.bl false) H1) : tAndV ta tb σ H Q := h
theorem a_orV (h : ta σ H fun x H1 => ∃ b, x = .bl b ∧ if b = true then Q (.bl true) H1 else tb σ H1 Q) : tOrV ta tb σ H Q := h
theorem a_notV (h : ta σ H fun x H1 => ∃ b, x = .bl b ∧ Q (.bl (!b)) H1) : tNotV ta σ H Q := h
theorem a_bv {b : Bool} {A : Bool → Prop} (h : A b) : ∃ k, V.bl b = .bl k ∧ A k := ⟨b, rfl, h⟩
theorem a_ifE (h : c σ H fun b H1 => if b = true then ta σ H1 Q else tb σ H1 Q) : tIf c ta tb σ H Q := h
theorem a_nil (h : QL [] H) : tNil σ H QL := h
theorem a_cons (h : te σ H fun x H1 => tr σ H1 fun xs H2 => QL (x :: xs) H2) : tCons te tr σ H QL := h
theorem a_tup (h : tr σ H fun xs H1 => NewT xs H1 Q) : tTup tr σ H Q := h
theorem a_lst (h : tr σ H fun xs H1 => NewL xs H1 Q) : tLst tr σ H Q := h
theorem a_cb {f : List V → Hp → VK → Prop} (h : tr σ H fun vs H1 => f vs H1 Q) : tCB f tr σ H Q := h
theorem a_call {sp : Sp} {dvs : List V} {E : XK} (h : tr σ H fun vs H1 => sp (vs ++ dvs) H1 Q E) : tCall sp dvs E tr σ H Q := h
theorem a_chain (h : ta σ H fun x H1 => tb σ H1 fun y H2 => r x y H2 fun z H3 => ∃ k, z = .bl k ∧ (if k = true then tc σ H3 fun w' H4 => r' y w' H4 Q else Q (.bl false) H3)) : tChain r r' ta tb tc σ H Q := h
theorem a_sl {f : V → Option Int → Option Int → Hp → VK → Prop} (h : te σ H fun x H1 => tl σ H1 fun l H2 => th σ H2 fun u H3 => f x l u H3 Q) : tSl f te tl th σ H Q := h
theorem a_npart {Qo : Option Int → Hp → Prop} (h : Qo none H) : tNoPart σ H Qo := h
theorem a_part {Qo : Option Int → Hp → Prop} (h : te σ H fun x H1 => ∃ i, x = .int i ∧ Qo (some i) H1) : tPart te σ H Qo := h
theorem a_ik {n : Int} {A : Int → Prop} (h : A n) : ∃ i, V.int n = .int i ∧ A i := ⟨n, rfl, h⟩
theorem a_gsub {to ti : TE} {ts : TSet} {Qs : L2.St → Hp → Prop} (h : to σ H fun o H1 => ti σ H1 fun i H2 => ts o i v H2 fun H3 => Qs σ H3) : gSub to ti ts v σ H Qs := h
theorem a_bm {T : String} {f : V → List V → Hp → VK → Prop} {to : TE} (h : to σ H fun x H1 => tyV K T x H1 ∧ tr σ H1 fun xs H2 => f x xs H2 Q) : tBM K T f to tr σ H Q := h
theorem a_bm0 {T : String} {f : V → List V → Hp → VK → Prop} {to : TE} (h : to σ H fun x H1 => tyV K T x H1 ∧ f x [] H1 Q) : tBM0 K T f to σ H Q := h
theorem a_par {a b : Nat} (h : tr σ H fun vs H1 => ∃ v w, vs = [v, w] ∧ D.nx ((σ.set a (some v)).set b (some w)) H1) : tPar a b tr D σ H := h
theorem a_par2 {A : V → V → Prop} (h : A x y) : ∃ v w, [x, y] = [v, w] ∧ A v w := ⟨x, y, rfl, h⟩
theorem a_for {wi : TI} (h : wi σ H fun J H1 => ∃ W : Nat → Nat → L2.St → Hp → Prop, (∃ m, W 0 m σ H1) ∧ ∀ i m σ H, W i m σ H →
  (J.stop i H ∧ D.nx σ H) ∨ (J.go i H ∧ ∃ N : L2.St → Hp → Prop, (∀ σ' H', N σ' H' → ∃ m', m' < m ∧ W (i + 1) m' σ' H') ∧ ∀ x H', J.yld i H x H' → g x σ H' fun σ2 H2 => t { D with nx := N, ct := N, bk := D.nx } σ2 H2)) : tFor wi g t D σ H := h
theorem a_rng1 {RR : It → Hp → Prop} (h : tr σ H fun vs H1 => ∃ j : Int, vs = [.int j] ∧ -(2 ^ 62) ≤ j ∧ j < 2 ^ 62 ∧ RR (Itr 0 j.toNat) H1) : iRng1 tr σ H RR := h
theorem a_rng1' {j : Int} {A : Int → Prop} (h1 : -(2 ^ 62) ≤ j) (h2 : j < 2 ^ 62) (h : A j) : ∃ k : Int, [V.int j] = [.int k] ∧ -(2 ^ 62) ≤ k ∧ k < 2 ^ 62 ∧ A k := ⟨j, rfl, h1, h2, h⟩
theorem a_rng2 {RR : It → Hp → Prop} (h : tr σ H fun vs H1 => ∃ i j : Int, vs = [.int i, .int j] ∧ (-(2 ^ 62) ≤ i ∧ i < 2 ^ 62 ∧ -(2 ^ 62) ≤ j ∧ j < 2 ^ 62) ∧ RR (Itr i (j - i).toNat) H1) : iRng2 tr σ H RR := h
theorem a_rng2' {i j : Int} {A : Int → Int → Prop} (h1 : -(2 ^ 62) ≤ i ∧ i < 2 ^ 62 ∧ -(2 ^ 62) ≤ j ∧ j < 2 ^ 62) (h : A i j) : ∃ a b : Int, [V.int i, V.int j] = [.int a, .int b] ∧ (-(2 ^ 62) ≤ a ∧ a < 2 ^ 62 ∧ -(2 ^ 62) ≤ b ∧ b < 2 ^ 62) ∧ A a b := ⟨i, j, rfl, h1, h⟩
theorem a_lc {wi : TI} {tt : TT} {vs : List Nat} (h : wi σ H fun J H1 => ∀ D, H1 D = none → ∃ W : Nat → Nat → Hp → Prop, (∃ m, W 0 m (upd H1 D (.lst []))) ∧ ∀ i m H, W i m H →
  (J.stop i H ∧ Q (.ref D) H) ∨ (J.go i H ∧ ∃ Nx : Hp → Prop, (∀ H', Nx H' → ∃ m', m' < m ∧ W (i + 1) m' H') ∧ ∀ x H', J.yld i H x H' → g x (wipe σ vs) H' fun σ2 H2 => wipe σ2 vs = wipe σ vs ∧ tt σ2 H2 fun b H3 =>
    if b = true then te σ2 H3 fun y H4 => ∃ acc, H4 D = some (.lst acc) ∧ acc.length < sizeLine ∧ Nx (upd H4 D (.lst (acc ++ [y]))) else Nx H3)) : tLc wi g tt te vs σ H Q := h
theorem a_gtup {n : Nat} {gs : TGs} {p : Addr} {xs : List V} {Qs : L2.St → Hp → Prop} (hs : SqT K H p xs) (hl : xs.length = n) (h : gs xs σ H Qs) : gTup K n gs (.ref p) σ H Qs := ⟨p, xs, rfl, hs, hl, h⟩
theorem a_gcons {gs : TGs} {vs : List V} {Qs : L2.St → Hp → Prop} (h : g v σ H fun σ' H' => gs vs σ' H' Qs) : gCons g gs (v :: vs) σ H Qs := ⟨v, vs, rfl, h⟩
theorem a_gnil {Qs : L2.St → Hp → Prop} (h : Qs σ H) : gNil [] σ H Qs := ⟨rfl, h⟩
theorem a_yes (h : QB true H) : tYes σ H QB := h
-- by values
theorem a_I0 {f : Int → Int → V} {m n : Int} (h : Q (f m n) H) : rI0 f (.int m) (.int n) H Q := ⟨m, n, rfl, rfl, h⟩
theorem a_I {C : Int → Int → Prop} {f : Int → Int → V} {m n : Int} (hc : C m n) (h : Q (f m n) H) : rI C f (.int m) (.int n) H Q := ⟨m, n, rfl, rfl, hc, h⟩
theorem a_eqI {m n : Int} (h : Q (.bl (decide (m = n))) H) : rEq (.int m) (.int n) H Q := ⟨rfl, by
  have e : decide (V.int m = V.int n) = decide (m = n) := by rw [dec_int, Bool.beq_eq_decide_eq]
  rw [e]; exact h⟩
theorem a_neI {m n : Int} (h : Q (.bl (!decide (m = n))) H) : rNe (.int m) (.int n) H Q := ⟨rfl, by
  have e : decide (V.int m = V.int n) = decide (m = n) := by rw [dec_int, Bool.beq_eq_decide_eq]
  rw [e]; exact h⟩
theorem a_isN1 (h : Q (.bl true) H) : rIsN .non .non H Q := ⟨rfl, h⟩
theorem a_isN0 (hx : x ≠ .non) (h : Q (.bl false) H) : rIsN x .non H Q := ⟨rfl, by rw [decide_eq_false hx]; exact h⟩
theorem a_notN1 (h : Q (.bl false) H) : rNotN .non .non H Q := ⟨rfl, h⟩
theorem a_notN0 (hx : x ≠ .non) (h : Q (.bl true) H) : rNotN x .non H Q := ⟨rfl, by rw [decide_eq_false hx]; exact h⟩
theorem a_ixL {p : Addr} {xs : List V} {n : Int} (hs : SqL K H p xs) (ha : atI xs n = some v) (h : Q v H) : rIxL K (.ref p) (.int n) H Q := ⟨p, xs, n, v, rfl, rfl, hs, ha, h⟩
theorem a_ixT {p : Addr} {xs : List V} {n : Int} (hs : SqT K H p xs) (ha : atI xs n = some v) (h : Q v H) : rIxT K (.ref p) (.int n) H Q := ⟨p, xs, n, v, rfl, rfl, hs, ha, h⟩
theorem a_setL {B : Hp} {Lw : List (Addr × HO)} {p : Addr} {xs : List V} {n : Int} {j : Nat} {Qh : Hp → Prop} (O : Own B Lw H) (i : Nat) (h : Lw[i]? = some (p, .lst xs)) (hj : ixN xs.length n = some j)
    (q : ∀ H', Own B (Lw.set i (p, .lst (xs.set j v))) H' → Qh H') : rSetL (.ref p) (.int n) v H Qh := ⟨p, xs, n, j, rfl, rfl, O.get i h, hj, q _ (O.put i h)⟩
theorem a_app {B : Hp} {Lw : List (Addr × HO)} {p : Addr} {xs : List V} (O : Own B Lw H) (i : Nat) (h : Lw[i]? = some (p, .lst xs)) (hl : xs.length ≤ 1000000)
    (q : ∀ H', Own B (Lw.set i (p, .lst (xs ++ [y]))) H' → Q .non H') : rAppend (.ref p) [y] H Q := ⟨p, xs, y, rfl, rfl, O.get i h, Nat.lt_of_le_of_lt hl (by decide), q _ (O.put i h)⟩
theorem a_mkL {B : Hp} {Lw : List (Addr × HO)} {xs : List V} (O : Own B Lw H) (hl : xs.length ≤ 1000000) (q : ∀ p H', H p = none → Own B ((p, .lst xs) :: Lw) H' → Q (.ref p) H') : NewL xs H Q :=
  ⟨Nat.le_trans hl (by decide), fun p hp => q p _ hp (O.new hp)⟩
theorem a_mkT {B : Hp} {Lw : List (Addr × HO)} {xs : List V} (O : Own B Lw H) (hl : xs.length ≤ 1000000) (q : ∀ p H', H p = none → Own B ((p, .tup xs) :: Lw) H' → Q (.ref p) H') : NewT xs H Q :=
  ⟨Nat.le_trans hl (by decide), fun p hp => q p _ hp (O.new hp)⟩
theorem a_int1 {n : Int} {A : Int → Prop} {C : Prop} (h : A n) : (∃ i, [V.int n] = [V.int i] ∧ A i) ∨ C := .inl ⟨n, rfl, h⟩
theorem a_len {q : Addr} {ys : List V} (hs : SqL K H q ys ∨ SqT K H q ys) (h : Q (.int ys.length) H) : rLen K [V.ref q] H Q := ⟨q, ys, rfl, hs, h⟩
theorem a_sum {a : Addr} {ns : List Int} (hs : SqL K H a (ns.map V.int)) (h : Q (.int ns.sum) H) : rSum K [V.ref a] H Q := ⟨a, ns, rfl, hs, h⟩
theorem a_tupL {B : Hp} {Lw : List (Addr × HO)} {a : Addr} {xs : List V} (O : Own B Lw H) (hs : SqL K H a xs) (h : ∀ p H', H p = none → Own B ((p, .tup xs) :: Lw) H' → Q (.ref p) H') : rTupOf K [V.ref a] H Q := ⟨a, xs, rfl, .inl ⟨hs, fun l hl => h l _ hl (O.new hl)⟩⟩
theorem a_tupT {a : Addr} {xs : List V} (hs : SqT K H a xs) (h : Q (.ref a) H) : rTupOf K [V.ref a] H Q := ⟨a, xs, rfl, .inr ⟨hs, h⟩⟩
theorem a_lstO {B : Hp} {Lw : List (Addr × HO)} {a : Addr} {xs : List V} (O : Own B Lw H) (hs : SqL K H a xs ∨ SqT K H a xs) (h : ∀ p H', H p = none → Own B ((p, .lst xs) :: Lw) H' → Q (.ref p) H') : rLstOf K [V.ref a] H Q := ⟨a, xs, rfl, hs, fun l hl => h l _ hl (O.new hl)⟩
theorem a_pow {m n : Int} {k : Nat} (hn : n = (k : Int)) (hk : k ≤ 1000000) (hm : m.natAbs < 2 ^ 64) (h : Q (.int (m ^ k)) H) : rI CPow (fun i j => .int (i ^ j.toNat)) (.int m) (.int n) H Q := by
  subst hn
  exact ⟨m, k, rfl, rfl, ⟨by omega, by omega, hm⟩, h⟩
theorem a_abs {n : Int} (h : Q (.int (n.natAbs : Int)) H) : rAbs [V.int n] H Q := ⟨n, rfl, by
  have e : (if n < 0 then -n else n) = (n.natAbs : Int) := by split <;> omega
  rw [e]; exact h⟩
-- tests
theorem a_tt {A B : Prop} (h : A) : if true = true then A else B := by rw [if_pos rfl]; exact h
theorem a_ff {A B : Prop} (h : B) : if false = true then A else B := by rw [if_neg Bool.false_ne_true]; exact h
theorem a_nt {A B : Prop} (h : B) : if (!true) = true then A else B := a_ff h
theorem a_nf {A B : Prop} (h : A) : if (!false) = true then A else B := a_tt h
theorem a_itT {p A B : Prop} [Decidable p] (hp : p) (h : A) : if decide p = true then A else B := by rw [if_pos (decide_eq_true hp)]; exact h
theorem a_itF {p A B : Prop} [Decidable p] (hp : ¬ p) (h : B) : if decide p = true then A else B := by rw [if_neg (by rw [decide_eq_false hp]; decide)]; exact h
theorem a_it2 {p A B : Prop} [Decidable p] (h1 : p → A) (h2 : ¬ p → B) : if decide p = true then A else B := by
  by_cases hp : p
  · exact a_itT hp (h1 hp)
  · exact a_itF hp (h2 hp)
theorem a_niT {p A B : Prop} [Decidable p] (hp : p) (h : B) : if (!decide p) = true then A else B := by rw [decide_eq_true hp]; exact a_nt h
theorem a_niF {p A B : Prop} [Decidable p] (hp : ¬ p) (h : A) : if (!decide p) = true then A else B := by rw [decide_eq_false hp]; exact a_nf h
theorem a_ni2 {p A B : Prop} [Decidable p] (h1 : p → B) (h2 : ¬ p → A) : if (!decide p) = true then A else B := by
  by_cases hp : p
  · exact a_niT hp (h1 hp)
  · exact a_niF hp (h2 hp)
theorem a_itB {b : Bool} {A B : Prop} (h1 : b = true → A) (h2 : b = false → B) : if b = true then A else B := by
  cases b with
  | true => exact a_tt (h1 rfl)
  | false => exact a_ff (h2 rfl)
theorem a_niB {b : Bool} {A B : Prop} (h1 : b = true → B) (h2 : b = false → A) : if (!b) = true then A else B := by
  cases b with
  | true => exact a_nt (h1 rfl)
  | false => exact a_nf (h2 rfl)
theorem a_cT {p q A B : Prop} [Decidable p] [Decidable q] (hp : p) (hq : q) (h : A) : if (decide p && decide q) = true then A else B := by rw [decide_eq_true hp, decide_eq_true hq]; exact a_tt h
theorem a_cF {p q A B : Prop} [Decidable p] [Decidable q] (hp : ¬ (p ∧ q)) (h : B) : if (decide p && decide q) = true then A else B := by
  by_cases h1 : p
  · rw [decide_eq_true h1, decide_eq_false (fun z => hp ⟨h1, z⟩)]; exact a_ff h
  · rw [decide_eq_false h1]; exact a_ff h
theorem a_ncT {p q A B : Prop} [Decidable p] [Decidable q] (hp : p) (hq : q) (h : B) : if (!(decide p && decide q)) = true then A else B := by rw [decide_eq_true hp, decide_eq_true hq]; exact a_nt h
theorem a_isiI {i : Int} (h : Q (.bl true) H) : rIsi K [.int i, .ty "int"] H Q := ⟨_, _, .type "int", .type "int", true, rfl, .ty _, .base (.int i), kit_ty (by decide +kernel), h⟩
theorem a_isiB {i : Int} (h : Q (.bl false) H) : rIsi K [.int i, .ty "bool"] H Q := ⟨_, _, .type "int", .type "bool", false, rfl, .ty _, .base (.int i), kit_ty (by decide +kernel), h⟩
end
theorem divW {m n : Int} (h : 0 < n) (h' : n < 10 ^ 60) : CDivW m n := wide_div (b := 200) h (by
  have q : (10 : Int) ^ 60 < 2 ^ 200 := by decide
  have r : n < 2 ^ 200 := Int.lt_trans h' q
  omega) (by decide) (by decide)
theorem at0 {α : Type} {xs : List α} {n : Int} {j : Nat} {v : α} (e : n = (j : Int)) (h : xs[j]? = some v) : atI xs n = some v := by
  rw [e]; exact atI_nat h
end R
namespace R
open PySem PySem.Spec PyProof.Rows L2
theorem mx_w {i j : Int} (a b : Nat) (ha : i.natAbs < 2 ^ a) (hb : j.natAbs < 2 ^ b) (h0 : 0 < a := by decide) (h1 : 0 < b := by decide) (h : a + b ≤ 1000000 := by decide) : IntMulOk i j := (wide_mul ha hb h0 h1 h).ok
end R
namespace R
open PySem PySem.Spec PyProof.Rows L2
open PySem.W (Frag)
section
variable {K : Frag} {B H : Hp} {Lw : List (Addr × HO)} {p : Addr} {z : Int} {Q : VK}
/-- an item of a written list at a drawn place -/
theorem a_ixV {xs : List V} (O : Own B Lw H) (i : Nat) (h : Lw[i]? = some (p, .lst xs)) (h0 : 0 ≤ z) (h1 : z < xs.length) (q : ∀ v, v ∈ xs → Q v H) : rIxL K (.ref p) (.int z) H Q := by
  have e : z.toNat < xs.length := by omega
  exact a_ixL (O.sq i h) (at0 (j := z.toNat) (by omega) (List.getElem?_eq_getElem e)) (q _ (List.getElem_mem e))
theorem a_ixM {ms : List Int} (O : Own B Lw H) (i : Nat) (h : Lw[i]? = some (p, .lst (ms.map V.int))) (h0 : 0 ≤ z) (h1 : z < ms.length) (q : ∀ m, m ∈ ms → Q (.int m) H) : rIxL K (.ref p) (.int z) H Q :=
  a_ixV O i h h0 (by rw [List.length_map]; exact h1) fun v hv => by
    obtain ⟨m, hm, rfl⟩ := List.mem_map.mp hv
    exact q m hm
end
end R
namespace R
open PySem PySem.Spec PyProof.Rows L2
open PySem.W (Frag)
section
variable {K : Frag} {B H : Hp} {Lw : List (Addr × HO)} {p : Addr} {z : Int} {Q : VK}
/-- an item of a list of ints -/
theorem a_ixI {ms : List Int} (O : Own B Lw H) (i : Nat) (h : Lw[i]? = some (p, .lst (ms.map V.int))) (h0 : 0 ≤ z) (h1 : z.toNat < ms.length) (q : Q (.int (ms[z.toNat])) H) : rIxL K (.ref p) (.int z) H Q :=
  a_ixL (O.sq i h) (at0 (j := z.toNat) (by omega) (by rw [List.getElem?_map, List.getElem?_eq_getElem h1]; rfl)) q
end
end R
namespace R
open PySem PySem.Spec PyProof.Rows L2
/-- an if whose test comes out one way on all ways -/
theorem a_ifNo {c : TT} {t u : TS} {D : Ends} {σ : L2.St} {H : Hp} (hc : ∀ QB : Bool → Hp → Prop, QB false H → c σ H QB) (h : u D σ H) : tIfS c t u D σ H := hc _ (a_ff h)
theorem a_ifYes {c : TT} {t u : TS} {D : Ends} {σ : L2.St} {H : Hp} (hc : ∀ QB : Bool → Hp → Prop, QB true H → c σ H QB) (h : t D σ H) : tIfS c t u D σ H := hc _ (a_tt h)
theorem a_ifNoH {c : TT} {t u : TS} {D : Ends} {σ : L2.St} {H : Hp} (P : Hp → Prop) (hc : ∀ QB : Bool → Hp → Prop, (∀ H', P H' → QB false H') → c σ H QB) (h : ∀ H', P H' → u D σ H') : tIfS c t u D σ H := hc _ fun H' p => a_ff (h H' p)
end R
namespace R
open PySem PySem.Spec PyProof.Rows L2
theorem q_F {p : Prop} [Decidable p] {QB : Bool → Hp → Prop} {H : Hp} (hq : QB false H) (hp : ¬ p) : QB (decide p) H := by rw [decide_eq_false hp]; exact hq
theorem q_T {p : Prop} [Decidable p] {QB : Bool → Hp → Prop} {H : Hp} (hq : QB true H) (hp : p) : QB (decide p) H := by rw [decide_eq_true hp]; exact hq
theorem q_nT {p : Prop} [Decidable p] {QB : Bool → Hp → Prop} {H : Hp} (hq : QB false H) (hp : p) : QB (!decide p) H := by rw [decide_eq_true hp]; exact hq
theorem q_nF {p : Prop} [Decidable p] {QB : Bool → Hp → Prop} {H : Hp} (hq : QB true H) (hp : ¬ p) : QB (!decide p) H := by rw [decide_eq_false hp]; exact hq
end R
namespace R
open PySem PySem.Spec PyProof.Rows L2
/-- while: W by a measure -/
theorem a_while {c : TT} {tb : TS} {D : Ends} {σ : L2.St} {H : Hp} (W : Nat → L2.St → Hp → Prop) (h0 : ∃ m, W m σ H)
    (hs : ∀ m σ H, W m σ H → c σ H fun b H1 => if b = true then (∃ N : L2.St → Hp → Prop, (∀ σ' H', N σ' H' → ∃ m', m' < m ∧ W m' σ' H') ∧ tb { D with nx := N, ct := N, bk := D.nx } σ H1) else D.nx σ H1) : tWhile c tb D σ H := ⟨W, h0, hs⟩
theorem a_turn {tb : TS} {D : Ends} {σ : L2.St} {H1 : Hp} {m : Nat} {W : Nat → L2.St → Hp → Prop} (h : tb { D with nx := fun σ' H' => ∃ m', m' < m ∧ W m' σ' H', ct := fun σ' H' => ∃ m', m' < m ∧ W m' σ' H', bk := D.nx } σ H1) :
    ∃ N : L2.St → Hp → Prop, (∀ σ' H', N σ' H' → ∃ m', m' < m ∧ W m' σ' H') ∧ tb { D with nx := N, ct := N, bk := D.nx } σ H1 := ⟨_, fun _ _ h => h, h⟩
end R
namespace R
open PySem PySem.Spec PyProof.Rows L2
open PySem.W (Frag)
section
variable {K : Frag} {tr : TA} {tl : TE} {σ : L2.St} {H : Hp} {RR : It → Hp → Prop}
theorem a_enum {tr : TA} (h : tr σ H fun vs H1 => ∃ a xs, vs = [.ref a] ∧ SqL K H1 a xs ∧ RR (Ite K a) H1) : iEnum K tr σ H RR := h
theorem a_iL (h : tl σ H fun x H1 => ∃ a, x = .ref a ∧ (∃ xs, SqL K H1 a xs) ∧ RR (Itl K a) H1) : iList K tl σ H RR := h
theorem a_iT (h : tl σ H fun x H1 => ∃ a, x = .ref a ∧ (∃ xs, SqT K H1 a xs) ∧ RR (Itt K a) H1) : iTup K tl σ H RR := h
end
end R
namespace R
open PySem PySem.Spec PyProof.Rows L2
open PySem.W (Frag)
section
variable {K : Frag} {te : TE} {σ : L2.St} {H B : Hp} {Q : VK} {Lw : List (Addr × HO)} {a : Addr} {xs : List V}
def rRev (K : Frag) : V → Hp → VK → Prop := fun x H Q => ∃ a xs, x = .ref a ∧ SqL K H a xs ∧ ∀ p, H p = none → Q (.ref p) (upd H p (.lst xs.reverse))
theorem a_rev (h : te σ H fun x H1 => rRev K x H1 Q) : tRevL K te σ H Q := h
theorem a_revL (O : Own B Lw H) (hs : SqL K H a xs) (q : ∀ p H', H p = none → Own B ((p, .lst xs.reverse) :: Lw) H' → Q (.ref p) H') : rRev K (.ref a) H Q := ⟨a, xs, rfl, hs, fun p hp => q p _ hp (O.new hp)⟩
end
end R
namespace R
open PySem PySem.Spec PyProof.Rows L2
open PySem.W (Frag)
/-! ### within a comprehension: the frag named -/
theorem pe_fldK {X : Cx} {K : Frag} {e : Expr} {f : Str} {pos : Pos} {ta : TE} (he : PE X e ta) (hb : attributeBase e f X.env (eval e X.env) = eval e X.env) (hK : X.K = K := by rfl) : PE X (.Attribute e f pos) (tFld K ta f) := by
  subst hK; exact pe_fld he hb
theorem pg_tupK {X : Cx} {K : Frag} {pos : Pos} {es : List Expr} {k : Nat} {t : TGs} {n : Nat} (hc : X.calm = true) (h : PGs X es t) (hK : X.K = K := by rfl) (hn : (assignEach es X.env).length = n := by rfl) (hst : (assignEach es X.env).findIdx? (·.1) = none := by rfl) : PG X (.Tuple es k pos) (gTup K n t) := by
  subst hK; exact pg_tup hc h hn hst
end R

namespace R
/-! ## the first one of a row -/
theorem find_more {α : Type} {g : Nat → Option α} {i : Nat} (h : (List.range i).findSome? g = none) (e : g i = none) : (List.range (i + 1)).findSome? g = none := by
  rw [List.range_succ, List.findSome?_append, h]
  simp [e]
theorem find_hit {α : Type} {g : Nat → Option α} {i : Nat} {x : α} (h : (List.range i).findSome? g = none) (e : g i = some x) : ∀ n : Nat, i < n → (List.range n).findSome? g = some x := by
  intro n
  induction n with
  | zero => intro z; omega
  | succ n ih =>
    intro z
    rw [List.range_succ, List.findSome?_append]
    by_cases q : i = n
    · rw [← q, h]; simp [e]
    · rw [ih (by omega)]; rfl
theorem pow_bits {b : Int} {n m : Nat} (h0 : 0 ≤ b) (h1 : b ≤ 16) (hn : n ≤ m) : (b ^ n).natAbs < 2 ^ (4 * m + 1) := by
  rw [Int.natAbs_pow]
  have e1 : b.natAbs ≤ 16 := by omega
  have e2 : b.natAbs ^ n ≤ 16 ^ n := Nat.pow_le_pow_left e1 n
  have e3 : (16 : Nat) ^ n = 2 ^ (4 * n) := by rw [Nat.pow_mul]
  have e4 : (2 : Nat) ^ (4 * n) ≤ 2 ^ (4 * m) := Nat.pow_le_pow_right (by decide) (by omega)
  have e5 : (2 : Nat) ^ (4 * m + 1) = 2 ^ (4 * m) * 2 := Nat.pow_succ ..
  have e6 : 0 < (2 : Nat) ^ (4 * m) := Nat.pow_pos (by decide)
  omega
end R
namespace R
theorem find_ext {α : Type} {g : Nat → Option α} {n : Nat} : ∀ m : Nat, n ≤ m → (∀ i, n ≤ i → i < m → g i = none) → (List.range m).findSome? g = (List.range n).findSome? g := by
  intro m
  induction m with
  | zero => intro h _; rw [Nat.le_zero.mp h]
  | succ m ih =>
    intro h k
    by_cases e : n = m + 1
    · rw [e]
    · rw [List.range_succ, List.findSome?_append, ih (by omega) fun i h1 h2 => k i h1 (by omega)]
      simp [k m (by omega) (by omega)]
theorem find_same {α : Type} {g g' : Nat → Option α} : ∀ n : Nat, (∀ i, i < n → g i = g' i) → (List.range n).findSome? g = (List.range n).findSome? g' := by
  intro n
  induction n with
  | zero => intro _; rfl
  | succ n ih =>
    intro k
    rw [List.range_succ, List.findSome?_append, List.findSome?_append, ih fun i h => k i (by omega)]
    simp [k n (by omega)]
/-- the first hit: all of the rows ahead of i, and j of row i -/
def fst2 (h : Nat → Nat → Option Int) (B i j : Nat) : Option (Nat × Int) :=
  ((List.range i).findSome? fun p => ((List.range B).findSome? (h p)).map fun x => (p, x)).or (((List.range j).findSome? (h i)).map fun x => (i, x))
theorem fst2_yes {h : Nat → Nat → Option Int} {B i j : Nat} {x : Int} (e : h i j = some x) : fst2 h B i (j + 1) = (fst2 h B i j).or (some (i, x)) := by
  unfold fst2
  rw [List.range_succ, List.findSome?_append]
  cases (List.range i).findSome? fun p => ((List.range B).findSome? (h p)).map fun x => (p, x) <;> cases (List.range j).findSome? (h i) <;> simp [e]
theorem fst2_no {h : Nat → Nat → Option Int} {B i j : Nat} (e : h i j = none) : fst2 h B i (j + 1) = fst2 h B i j := by
  unfold fst2
  rw [List.range_succ, List.findSome?_append]
  cases (List.range j).findSome? (h i) <;> simp [e]
theorem fst2_row {h : Nat → Nat → Option Int} {B i : Nat} : fst2 h B (i + 1) 0 = fst2 h B i B := by
  unfold fst2
  rw [List.range_succ, List.findSome?_append]
  simp
theorem fst2_all {h : Nat → Nat → Option Int} {B i : Nat} : fst2 h B i 0 = (List.range i).findSome? fun p => ((List.range B).findSome? (h p)).map fun x => (p, x) := by
  unfold fst2
  simp
theorem head_snoc {α : Type} (ps : List α) (x : α) : (ps ++ [x]).head? = ps.head?.or (some x) := by
  cases ps <;> rfl
end R

namespace R
open PySem PySem.Spec PyProof.Rows L2
open PySem.W (Frag)
/-! ## lists and tuples as data -/
theorem canAll_map {α : Type} {f : α → PyData} (h : ∀ a, (f a).canLay0 = true) : ∀ l : List α, PyData.canLayAll0 (l.map f) = true
  | [] => rfl
  | a :: l => by
    show ((f a).canLay0 && PyData.canLayAll0 (l.map f)) = true
    rw [h a, canAll_map h l]; rfl
theorem depthAll_map {α : Type} {f : α → PyData} {n : Nat} (h : ∀ a, (f a).depth ≤ n) : ∀ l : List α, PyData.depthAll (l.map f) ≤ n
  | [] => Nat.zero_le _
  | a :: l => by
    have h1 := h a
    have h2 := depthAll_map h l
    show max (f a).depth (PyData.depthAll (l.map f)) ≤ n
    omega
theorem dpAll_map {α : Type} {K : Frag} {H : Hp} {g : α → V} {f : α → PyData} (h : ∀ a, Dp K H (g a) (f a)) : ∀ l : List α, DpAll K H (l.map g) (l.map f)
  | [] => .nil
  | a :: l => .cons (h a) (dpAll_map h l)
theorem shaped_of {d : PyData} (h1 : d.canLay0 = true) (h2 : d.depth ≤ 64) : SeqAt.shaped d = true := by
  unfold SeqAt.shaped
  rw [h1, decide_eq_true h2]; rfl
/-- a list of ints -/
def pyL (ns : List Int) : PyData := .list (ns.map .int)
def pyT (ns : List Int) : PyData := .tuple (ns.map .int)
theorem can_pyL (ns : List Int) : (pyL ns).canLay0 = true := canAll_map (fun _ => rfl) ns
theorem can_pyT (ns : List Int) : (pyT ns).canLay0 = true := canAll_map (fun _ => rfl) ns
theorem dep_pyL (ns : List Int) : (pyL ns).depth ≤ 1 := by
  have h := depthAll_map (f := PyData.int) (n := 0) (fun _ => Nat.le_refl 0) ns
  show PyData.depthAll (ns.map .int) + 1 ≤ 1
  omega
theorem dep_pyT (ns : List Int) : (pyT ns).depth ≤ 1 := by
  have h := depthAll_map (f := PyData.int) (n := 0) (fun _ => Nat.le_refl 0) ns
  show PyData.depthAll (ns.map .int) + 1 ≤ 1
  omega
section
variable {K : Frag} {H : Hp} {x y : V} {Q : VK} {d : PyData} {a b : Addr} {ns : List Int}
theorem dp_pyL (h : SqL K H a (ns.map V.int)) : Dp K H (.ref a) (pyL ns) := .lst h (dpAll_map (fun i => .int i) ns)
theorem dp_pyT (h : SqT K H a (ns.map V.int)) : Dp K H (.ref a) (pyT ns) := .tup h (dpAll_map (fun i => .int i) ns)
theorem a_eqD (hx : Dp K H x d) (hy : Dp K H y d) (h1 : d.canLay0 = true) (h2 : d.depth ≤ 64) (h : Q (.bl true) H) : rEqD K x y H Q :=
  ⟨d, d, hx, hy, shaped_of h1 h2, shaped_of h1 h2, by rw [SeqAt.eqv_refl d h1]; exact h⟩
theorem a_neD (hx : Dp K H x d) (hy : Dp K H y d) (h1 : d.canLay0 = true) (h2 : d.depth ≤ 64) (h : Q (.bl false) H) : rNeD K x y H Q :=
  ⟨d, d, hx, hy, shaped_of h1 h2, shaped_of h1 h2, by rw [SeqAt.eqv_refl d h1]; exact h⟩
theorem a_eqL (hx : SqL K H a (ns.map V.int)) (hy : SqL K H b (ns.map V.int)) (h : Q (.bl true) H) : rEqD K (.ref a) (.ref b) H Q := a_eqD (dp_pyL hx) (dp_pyL hy) (can_pyL ns) (Nat.le_trans (dep_pyL ns) (by decide)) h
theorem a_neL (hx : SqL K H a (ns.map V.int)) (hy : SqL K H b (ns.map V.int)) (h : Q (.bl false) H) : rNeD K (.ref a) (.ref b) H Q := a_neD (dp_pyL hx) (dp_pyL hy) (can_pyL ns) (Nat.le_trans (dep_pyL ns) (by decide)) h
theorem a_eqT (hx : SqT K H a (ns.map V.int)) (hy : SqT K H b (ns.map V.int)) (h : Q (.bl true) H) : rEqD K (.ref a) (.ref b) H Q := a_eqD (dp_pyT hx) (dp_pyT hy) (can_pyT ns) (Nat.le_trans (dep_pyT ns) (by decide)) h
theorem a_neT (hx : SqT K H a (ns.map V.int)) (hy : SqT K H b (ns.map V.int)) (h : Q (.bl false) H) : rNeD K (.ref a) (.ref b) H Q := a_neD (dp_pyT hx) (dp_pyT hy) (can_pyT ns) (Nat.le_trans (dep_pyT ns) (by decide)) h
end
end R
namespace R
open PySem PySem.Spec PyProof.Rows L2
open PySem.W (Frag)
theorem dpAll_snoc {K : Frag} {H : Hp} {v : V} {d : PyData} (h : Dp K H v d) : ∀ {vs : List V} {ds : List PyData}, DpAll K H vs ds → DpAll K H (vs ++ [v]) (ds ++ [d])
  | _, _, .nil => .cons h .nil
  | _, _, .cons h1 h2 => .cons h1 (dpAll_snoc h h2)
theorem dpAll_len {K : Frag} {H : Hp} : ∀ {vs : List V} {ds : List PyData}, DpAll K H vs ds → vs.length = ds.length
  | _, _, .nil => rfl
  | _, _, .cons _ h2 => by rw [List.length_cons, List.length_cons, dpAll_len h2]
/-- a pair of ints -/
def pyP (p : Nat × Int) : PyData := .tuple [.int p.1, .int p.2]
theorem can_pyP (p : Nat × Int) : (pyP p).canLay0 = true := rfl
theorem dep_pyP (p : Nat × Int) : (pyP p).depth ≤ 1 := Nat.le_refl 1
theorem dp_pyP {K : Frag} {H : Hp} {a : Addr} {p : Nat × Int} (h : SqT K H a [.int p.1, .int p.2]) : Dp K H (.ref a) (pyP p) := .tup h (.cons (.int _) (.cons (.int _) .nil))
/-- != by data that is not the same -/
theorem a_neD' {K : Frag} {H : Hp} {x y : V} {Q : VK} {d e : PyData} (hx : Dp K H x d) (hy : Dp K H y e) (h1 : d.canLay0 = true) (h2 : d.depth ≤ 64) (h3 : e.canLay0 = true) (h4 : e.depth ≤ 64) (n : PyData.eqv d e = false) (h : Q (.bl true) H) : rNeD K x y H Q :=
  ⟨d, e, hx, hy, shaped_of h1 h2, shaped_of h3 h4, by rw [n]; exact h⟩
theorem a_eqD' {K : Frag} {H : Hp} {x y : V} {Q : VK} {d e : PyData} (hx : Dp K H x d) (hy : Dp K H y e) (h1 : d.canLay0 = true) (h2 : d.depth ≤ 64) (h3 : e.canLay0 = true) (h4 : e.depth ≤ 64) (n : PyData.eqv d e = false) (h : Q (.bl false) H) : rEqD K x y H Q :=
  ⟨d, e, hx, hy, shaped_of h1 h2, shaped_of h3 h4, by rw [n]; exact h⟩
end R

/-! ## enumerate(a tuple) -/
namespace PySem
namespace EnT
open PySem.W PySem.Calls PyProof.Rows
set_option maxHeartbeats 4000000
theorem meets_new1 {src : Value} {itO : Obj} {Hx : Heap → Prop} (B : Begins src itO Hx) :
    Meets (Builtin.«enumerate.__new__» ⟨[.type "enumerate", src], []⟩) (fun _ R s => Hx s.heap ∧
      R (.ok (.ret (.ref (s.heap.push itO).objs.size))) { s with heap := (s.heap.push itO).push { cls := .type "enumerate", data := .fields #[.none, .bool false, .ref s.heap.objs.size, rawInt 0, .none, .none] } }) := by
  refine .of_wp fun prog w A R s h => ?_
  obtain ⟨hp0, gn, dr, tks, osx⟩ := s
  obtain ⟨hH, hR⟩ := h
  have hsub := sub_enumerate
  have stp : ∀ {A' : Around} {E : Value → Shared → Prop} {Q : Value → Shared → Prop}, Q (.ref hp0.objs.size) ⟨hp0.push itO, gn, dr, tks, osx⟩ →
      wpAny (model prog w) A' (pyIter src) Q E ⟨hp0, gn, dr, tks, osx⟩ := fun q => B.iter prog w _ _ ⟨hp0, gn, dr, tks, osx⟩ _ hH q
  wp_walk using stp
  refine wpAny_stack_any fun st => wpAny_pure ?_
  split
  · rename_i c _ _ _ _ _
    cases (c == Value.type "enumerate") <;> (wp_walk using stp; exact ⟨_, rfl, hR⟩)
  · wp_walk using stp
    exact ⟨_, rfl, hR⟩
theorem call_new1 {prog : Program} {w : World} {A : Around} {E : Value → Shared → Prop} {s : Shared} {src : Value} {itO : Obj} {Hx : Heap → Prop} {Q : Value → Shared → Prop} (B : Begins src itO Hx) (hH : Hx s.heap)
    (h : ∀ h', IsEnum h' (s.heap.objs.size + 1) s.heap.objs.size 0 .none → h'.get? s.heap.objs.size = some itO → h'.objs.size = s.heap.objs.size + 2 →
      (∀ b o, s.heap.get? b = some o → h'.get? b = some o) → Q (.ref (s.heap.objs.size + 1)) { s with heap := h' }) :
    wpAny (model prog w) A (call (.type "enumerate") [src]) Q E s := by
  have z : (s.heap.push itO).objs.size = s.heap.objs.size + 1 := Heap.size_push ..
  refine callType_new F.called_enumerate (by decide) (F.typeCall_enumerate_1 _) (F.newCall_enumerate_1 _) (fun obj => F.args_object_init_2 obj _) F.entry_enumerate_new (meets_new1 B) ⟨hH, ?_⟩
  show _ ∧ _
  rw [z]
  have en : IsEnum ((s.heap.push itO).push { cls := .type "enumerate", data := .fields #[.none, .bool false, .ref s.heap.objs.size, rawInt 0, .none, .none] }) (s.heap.objs.size + 1) s.heap.objs.size 0 .none := by
    have q := Heap.get?_push_size (s.heap.push itO) (o := { cls := .type "enumerate", data := .fields #[.none, .bool false, .ref s.heap.objs.size, rawInt 0, .none, .none] }) rfl
    rw [z] at q
    exact q
  exact ⟨⟨_, en, rfl⟩, h _ en (Heap.get?_push_of_some _ (Heap.get?_push_size _ B.free)) (by rw [Heap.size_push, z]) fun b o x => Heap.get?_push_of_some _ (Heap.get?_push_of_some _ x)⟩
theorem end2 {prog : Program} {w : World} {A : Around} {E : Value → Shared → Prop} {s : Shared} {e it a : Addr} {i : Int} {j : Nat} {its : Array Value} {old : Value} {Q : Option Value → Shared → Prop} (hh : A.handled = none)
    (hen : IsEnum s.heap e it i old) (hti : s.heap.IsTupleIter it a j) (tp : s.heap.IsTuple a its) (hx : its[j]? = none)
    (k : ∀ h', Heap.ExtBut it s.heap h' → Q none { s with heap := h' }) : wpAny (model prog w) A (pyNext (.ref e)) Q E s := by
  have ty : s.TypeIs (.ref e) "enumerate" := ⟨_, hen, rfl⟩
  unfold pyNext
  refine wpAny_bind (wpAny_attempt (wpAny_callSpecial?_slot (name := Str.ofString "__next__") ty F.slot_enumerate_next ?_))
  refine wpAny_call_entry F.slot_enumerate_next ty F.entry_enumerate_next ?_ (F.args_enumerate_next_1 _)
  show wpAny _ _ (field (.ref e) 2 >>= _) _ _ _
  refine wpAny_bind (wpAny_field hen rfl (x := .ref it) rfl (wpAny_bind (wpAny_nextOf_tuple_end hh hti tp hx fun h' x eb hxo => ?_)))
  obtain ⟨ob, hob, hcl⟩ := hxo
  exact wpAny_bind (wpAny_isInstance (T := "StopIteration") (b := true) ⟨ob, hob, hcl⟩ isSubtype_stop (wpAny_pure (k _ eb)))
end EnT
end PySem
namespace R
open PySem PySem.Spec PyProof.Rows L2
open PySem.W (Frag)
/-- the tuple at a, each item in a new pair -/
def IteT (K : Frag) (a : Addr) : It :=
  ⟨fun i H => ∃ (xs : List V) (x : V), SqT K H a xs ∧ xs[i]? = some x,
   fun i H v H' => ∃ T x, v = .ref T ∧ H T = none ∧ H' = upd H T (.tup [.int (i : Nat), x]) ∧ ∀ xs, SqT K H a xs → xs[i]? = some x,
   fun i H => ∃ xs : List V, SqT K H a xs ∧ xs.length ≤ i⟩
theorem apart_ti {h : Heap} {a it : Addr} {i : Nat} {its : Array Value} (t : h.IsTuple a its) (j : h.IsTupleIter it a i) : a ≠ it := by
  intro z
  obtain ⟨o1, q1, c1, _⟩ := t
  obtain ⟨o2, q2, c2, _⟩ := j
  rw [z, q2] at q1
  cases q1
  rw [c1] at c2
  exact absurd c2 (by decide)
theorem apart_te {h : Heap} {a e it : Addr} {i : Int} {old : Value} {its : Array Value} (t : h.IsTuple a its) (j : IsEnum h e it i old) : e ≠ a := by
  intro z
  obtain ⟨o1, q1, c1, _⟩ := t
  have q2 : h.get? e = some _ := j
  rw [← z, q2] at q1
  cases q1
  exact absurd (show Value.type "enumerate" = Value.type "tuple" from c1) (by decide)
theorem turn_enumT {P : Program} {w : World} {K : Frag} {elts : List Expr} {kk : Nat} {tpos : Pos} (a e it : Addr) :
    Turn P w K (.Tuple elts kk tpos) (IteT K a) [e, it] e (fun i h => (∃ old, IsEnum h e it ((i : Nat) : Int) old) ∧ h.IsTupleIter it a i ∧ e ≠ it) where
  mem := List.mem_cons_self
  obj := fun i h st b hb => by
    obtain ⟨⟨old, hen⟩, ⟨ob, hob, hcl, hdt⟩, _⟩ := st
    rcases List.mem_cons.mp hb with rfl | hb
    · exact ⟨_, hen, fun v q => nomatch q⟩
    · have z : b = it := by simpa using hb
      subst z
      exact ⟨ob, hob, fun v q => by rw [hdt] at q; cases q⟩
  keep := fun i h h' st k => by
    obtain ⟨⟨old, hen⟩, hti, ne⟩ := st
    exact ⟨⟨old, k e (by simp) _ hen⟩, hti.at fun o q => k it (by simp) o q, ne⟩
  item := by
    intro X hP hw hK hc i pins s σ H E I hf st hg
    subst hP hw hK
    obtain ⟨⟨old, hen⟩, hti, ne⟩ := st
    obtain ⟨xs, x, sq, hx⟩ := hg
    obtain ⟨its, rv, tp, _⟩ := I.tuple sq
    obtain ⟨u0, hu0, ru0⟩ := rv.get hx
    have tp' : s.heap.IsTuple a its.toArray := tp
    have n1 := apart_ti tp' hti
    have n2 := apart_te tp' hen
    have le1 : e < s.heap.objs.size := Heap.lt_size hen
    have le2 : it < s.heap.objs.size := by
      obtain ⟨_, q, _⟩ := hti
      exact Heap.lt_size q
    have hi : i < its.toArray.size := by
      obtain ⟨q, _⟩ := List.getElem?_eq_some_iff.mp hu0
      simpa using q
    refine wpAny_pyNext_enum_itemD (Draws.tuple (A := X.A.in1) (show X.A.in1.handled = none from I.ok.hd hc) it a n1 its.toArray) hen ⟨hti, tp'⟩ hi ne (by simp [ne, n2]) fun v h' tk hv hout hst hT _ hk => ?_
    have ev : v = u0 := by
      have q : its.toArray[i]? = some u0 := by simpa using hu0
      rw [q] at hv
      exact (Option.some.inj hv).symm
    subst ev
    refine ⟨_, rfl, wpAny_letOwnedTupleGo_enum (s := { s with heap := h', toks := tk + 1 }) hout fun h'' hen' sb => ?_⟩
    have hT2 : h''.get? s.heap.objs.size = some { cls := .type "tuple", data := .seq #[.int i tk, v] } := (sb.2 _ (Nat.ne_of_gt le1)).trans hT
    have kp : ∀ b ob, b ∉ [e, it] → s.heap.get? b = some ob → h''.get? b = some ob := fun b ob hb q => by
      have q1 : b ≠ e := fun z => hb (by simp [z])
      have q2 : b ≠ it := fun z => hb (by simp [z])
      exact (sb.2 b q1).trans (hk b ob q1 q2 q)
    have nw : ObjOk X.prog X.w (upd H s.heap.objs.size (.tup [.int (i : Nat), x])) h'' s.heap.objs.size (.tup [.int (i : Nat), x]) :=
      ⟨(by show 2 ≤ sizeLine; decide), [.int i tk, v], .cons ⟨_, rfl⟩ (.cons ru0 .nil), ⟨_, hT2, rfl, _, rfl⟩⟩
    have J : Inv X pins σ (upd H s.heap.objs.size (.tup [.int (i : Nat), x])) { s with heap := h'', toks := tk + 1 } := I.turnedNew (ch := [e, it]) kp hf (Nat.le_refl _) nw
    refine ⟨.ref s.heap.objs.size, _, J, rfl, ⟨_, x, rfl, I.hok.fresh (Nat.le_refl _), rfl, fun ys hy => by rw [I.tuple_inj hy sq]; exact hx⟩, ⟨⟨v, ?_⟩, hst.1.at fun o q => (sb.2 it (Ne.symm ne)).trans q, ne⟩, fun b hb => ?_⟩
    · have e1 : ((i + 1 : Nat) : Int) = (i : Int) + 1 := by omega
      rw [e1]
      exact hen'
    · have lb : b < s.heap.objs.size := by
        rcases List.mem_cons.mp hb with z | hb
        · rw [z]; exact le1
        · have z : b = it := by simpa using hb
          rw [z]; exact le2
      rw [upd_ne (Nat.ne_of_lt lb)]
      exact (hf b hb).1
  done := by
    intro X hP hw hK hc i pins s σ H E I hf st hg
    subst hP hw hK
    obtain ⟨⟨old, hen⟩, hti, ne⟩ := st
    obtain ⟨xs, sq, hx⟩ := hg
    obtain ⟨its, rv, tp, _⟩ := I.tuple sq
    have tp' : s.heap.IsTuple a its.toArray := tp
    obtain ⟨f0, f1, f2, f3, f4, f5⟩ := hf it (by simp)
    have hl := rv.length
    refine EnT.end2 (I.ok.hd hc) hen hti tp' (by simp; omega) fun h' eb => ?_
    exact ⟨rfl, I.turned (t' := s.toks) (fun b o hb q => eb b o hb q) f0 f1 f3 f4 f5⟩
  self := fun A i s Q E st h => by
    obtain ⟨⟨_, hen⟩, _⟩ := st
    exact wpAny_pyIter_enum hen h
def iEnumT (K : Frag) (ta : TA) : TI := fun σ H RR => ta σ H fun vs H1 => ∃ a xs, vs = [.ref a] ∧ SqT K H1 a xs ∧ RR (IteT K a) H1
theorem pi_enumT {X : Cx} {e : Expr} {ta : TA} {p pos tpos : Pos} {elts : List Expr} {kk : Nat} (hg : Gl X "enumerate") (hm : X.mg "enumerate" = none) (ha : PA X [e] ta) (hs : starEach [e] X.env = [(false, eval e X.env)] := by rfl) :
    PI X (.Tuple elts kk tpos) (.Call (.Name "enumerate" p) [e] [] pos) (iEnumT X.K ta) := by
  refine ⟨fun pins s σ H RR I h => ?_⟩
  refine Call_ (ld_blt I hg hm boot_enumerate (PyProof.Rows.callWith_type1 (thn (ha.run pos pins s σ H _ I h) fun us s1 ⟨vs, H1, I1, r1, q1⟩ => ?_) hs rfl))
  obtain ⟨a, xs, ev, sq, q⟩ := q1
  subst ev
  obtain ⟨u, hu, ru⟩ := vals1 r1
  subst hu
  cases ru
  obtain ⟨its, rv, tp, _⟩ := I1.tuple sq
  have tp' : s1.heap.IsTuple a its.toArray := tp
  refine EnT.call_new1 (begins_tuple a its.toArray) tp' fun h' hen hit _ hk => wpAny_pyIter_enum hen ?_
  have J : Inv X pins σ H1 { s1 with heap := h' } := I1.kept (t' := s1.toks) hk
  refine ⟨s1.heap.objs.size + 1, [s1.heap.objs.size + 1, s1.heap.objs.size], _, _, H1, rfl, J, turn_enumT a (s1.heap.objs.size + 1) s1.heap.objs.size, ⟨⟨.none, hen⟩, ⟨_, hit, rfl, rfl⟩, Nat.succ_ne_self _⟩, fun b hb => ?_, q⟩
  have le : s1.heap.objs.size ≤ b := by
    rcases List.mem_cons.mp hb with z | hb
    · rw [z]; exact Nat.le_succ _
    · have z : b = s1.heap.objs.size := by simpa using hb
      rw [z]; exact Nat.le_refl _
  exact I1.fpOk le (I1.hok.fresh le)
theorem walk_enumT {K : Frag} {a : Addr} {xs : List V} : Walk (IteT K a) xs.length (fun H => SqT K H a xs) (YPair (fun i => some (.int (i : Nat))) (fun i => xs[i]?)) := by
  refine ⟨fun i _ hi q => ⟨xs, xs[i], q, by simp [hi]⟩, fun _ q => ⟨xs, q, Nat.le_refl _⟩, fun i H v H' _ q y => ?_⟩
  obtain ⟨T, x, h1, h2, h3, h4⟩ := y
  exact ⟨T, .int (i : Nat), x, h1, h2, h3, rfl, h4 xs q⟩
end R
namespace R
open PySem PySem.Spec PyProof.Rows L2
open PySem.W (Frag)
theorem a_enumT {K : Frag} {tr : TA} {σ : L2.St} {H : Hp} {RR : It → Hp → Prop} (h : tr σ H fun vs H1 => ∃ a xs, vs = [.ref a] ∧ SqT K H1 a xs ∧ RR (IteT K a) H1) : iEnumT K tr σ H RR := h
end R

/-! ## fields of an own instance -/
namespace R
open PySem PySem.Spec PyProof.Rows L2
open PySem.W (Frag)
def rFld (K : Frag) (f : Str) : V → Hp → VK → Prop := fun x H Q => ∃ a C dx fs v, x = .ref a ∧ H a = some (.ins C dx fs) ∧ Cls K C ∧ NoAttr K C f ∧ fs.lookup f = some v ∧ Q v H
def rSetF (K : Frag) (f : Str) : V → V → Hp → (Hp → Prop) → Prop := fun x y H P => ∃ a C dx fs, x = .ref a ∧ H a = some (.ins C dx fs) ∧ Cls K C ∧ NoAttr K C f ∧ fs.length < 1000 ∧ P (upd H a (.ins C dx (putF f y fs)))
def NewI (C : Addr) (sp : Sp) (dvs : List V) (E : XK) (vs : List V) (H : Hp) (Q : VK) : Prop := ∀ x dx, H x = none → H dx = none → dx ≠ x →
  sp (.ref x :: (vs ++ dvs)) (upd (upd H dx (.own x)) x (.ins C dx [])) (fun v H2 => v = .non ∧ Q (.ref x) H2) E
section
variable {K : Frag} {f g : Str} {ta tv : TE} {σ : L2.St} {H B : Hp} {Q : VK} {D : Ends} {Lw : List (Addr × HO)} {a C dx : Addr} {fs : List (Str × V)} {v y : V}
theorem a_fld (h : ta σ H fun x H1 => rFld K f x H1 Q) : tFld K ta f σ H Q := h
theorem a_sfld (h : tv σ H fun y H1 => ta σ H1 fun x H2 => rSetF K f x y H2 fun H3 => D.nx σ H3) : sFld K ta tv f D σ H := h
theorem a_getF (h : H a = some (.ins C dx fs)) (cl : Cls K C) (n : NoAttr K C f) (hl : fs.lookup f = some v) (q : Q v H) : rFld K f (.ref a) H Q := ⟨a, C, dx, fs, v, rfl, h, cl, n, hl, q⟩
theorem a_setF {P : Hp → Prop} (O : Own B Lw H) (i : Nat) (h : Lw[i]? = some (a, .ins C dx fs)) (cl : Cls K C) (n : NoAttr K C f) (hl : fs.length < 1000) (q : ∀ H', Own B (Lw.set i (a, .ins C dx (putF f y fs))) H' → P H') : rSetF K f (.ref a) y H P :=
  ⟨a, C, dx, fs, rfl, O.get i h, cl, n, hl, q _ (O.put i h)⟩
theorem lk_eq : ((f, v) :: fs).lookup f = some v := by
  have hb : (f == f) = true := beq_iff_eq.mpr rfl
  simp only [List.lookup, hb]
theorem lk_ne (h : ¬ f = g) : ((g, v) :: fs).lookup f = fs.lookup f := by
  have hb : (f == g) = false := beq_eq_false_iff_ne.mpr h
  simp only [List.lookup, hb]
theorem put_ne (h : ¬ g = f) : putF f y ((g, v) :: fs) = (g, v) :: putF f y fs := by
  show (if g = f then (g, y) :: fs else (g, v) :: putF f y fs) = _
  rw [if_neg h]
theorem put_eq : putF f y ((f, v) :: fs) = (f, y) :: fs := by
  show (if f = f then (f, y) :: fs else (f, v) :: putF f y fs) = _
  rw [if_pos rfl]
theorem put_nil : putF f y [] = [(f, y)] := rfl
/-- a new instance -/
theorem a_make {sp : Sp} {dvs : List V} {E : XK} {t : TA} (h : t σ H fun vs H1 => NewI C sp dvs E vs H1 Q) : tMake C sp dvs E t σ H Q := h
end
end R

namespace R
open PySem PySem.Spec PyProof.Rows L2
open PySem.W (Frag)
variable {K : Frag} {v : V} {σ : L2.St} {H : Hp}
theorem a_glst {n : Nat} {gs : TGs} {p : Addr} {xs : List V} {Qs : L2.St → Hp → Prop} (hs : SqL K H p xs) (hl : xs.length = n) (h : gs xs σ H Qs) : gLst K n gs (.ref p) σ H Qs := ⟨p, xs, rfl, hs, hl, h⟩
theorem pg_lstK {X : Cx} {pos : Pos} {es : List Expr} {k : Nat} {t : TGs} {n : Nat} (hc : X.calm = true) (h : PGs X es t) (hK : X.K = K := by rfl) (hn : (assignEach es X.env).length = n := by rfl) (hst : (assignEach es X.env).findIdx? (·.1) = none := by rfl) : PG X (.Tuple es k pos) (gLst K n t) := by
  subst hK; exact pg_lst hc h hn hst
end R

/-! ## the numbers behind, and the first that fail -/
namespace R
open PySem PySem.Spec PyProof.Rows L2
open PySem.W (Frag)
/-- what a trick makes of n -/
def beh (b k t n : Int) : Int := n / b ^ k.toNat + t * (n % b ^ k.toNat)
/-- a number or None -/
def optV : Option Int → V
  | none => .non
  | some n => .int n
/-- the least number below i with p -/
def fstB (p : Int → Bool) (i : Nat) : Option Int := (List.range i).findSome? fun (j : Nat) => if p j = true then some (j : Int) else none
theorem fstB_zero {p : Int → Bool} : fstB p 0 = none := rfl
theorem fstB_step {p : Int → Bool} {i : Nat} : fstB p (i + 1) = (fstB p i).or (if p i = true then some (i : Int) else none) := by
  unfold fstB
  rw [List.range_succ, List.findSome?_append]
  congr 1
  cases c : p (i : Int) <;> simp [List.findSome?, c]
theorem fstB_yes {p : Int → Bool} {i : Nat} (h : fstB p i = none) (e : p i = true) : fstB p (i + 1) = some (i : Int) := by rw [fstB_step, h, if_pos e]; rfl
theorem fstB_no {p : Int → Bool} {i : Nat} (h : fstB p i = none) (e : p i = false) : fstB p (i + 1) = none := by rw [fstB_step, h, e]; rfl
theorem fstB_old {p : Int → Bool} {i : Nat} {x : Int} (h : fstB p i = some x) : fstB p (i + 1) = some x := by rw [fstB_step, h]; rfl
theorem fstB_hit {p : Int → Bool} {i : Nat} (h : fstB p i = none) (e : p i = true) : ∀ n : Nat, i < n → fstB p n = some (i : Int) := find_hit h (if_pos e)
theorem fstB_none {p : Int → Bool} {n : Nat} (h : fstB p n = none) {x : Int} (h0 : 0 ≤ x) (h1 : x < n) : p x = false := by
  unfold fstB at h
  rw [List.findSome?_eq_none_iff] at h
  have q := h x.toNat (List.mem_range.mpr (by omega))
  have e : ((x.toNat : Nat) : Int) = x := by omega
  rw [e] at q
  cases c : p x with
  | false => rfl
  | true => rw [if_pos c] at q; cases q
theorem fstB_some {p : Int → Bool} {n : Nat} {x : Int} (h : fstB p n = some x) : 0 ≤ x ∧ x < n ∧ p x = true := by
  unfold fstB at h
  obtain ⟨i, hi, e⟩ := List.exists_of_findSome?_eq_some h
  have h1 := List.mem_range.mp hi
  split at e
  · rename_i c
    cases e
    exact ⟨by omega, by omega, c⟩
  · cases e
/-- no rest is kept; a multiple and none -/
def unl (b k t d n : Int) : Bool := !decide (n % d = beh b k t n % d)
def fls (b k t d n : Int) : Bool := decide (n % d = 0) != decide (beh b k t n % d = 0)
theorem beh_turn {b k t d q m : Int} (hB : 0 < b ^ k.toNat) : beh b k t (q * (d * b ^ k.toNat) + m) = q * d + beh b k t m := by
  unfold beh
  generalize b ^ k.toNat = B at *
  have e : q * (d * B) + m = m + B * (q * d) := by
    rw [← Int.mul_assoc, Int.mul_comm (q * d) B]; omega
  rw [e, Int.add_mul_ediv_left _ _ (by omega), Int.add_mul_emod_self_left]
  omega
theorem turn_of {b k t d : Int} (hB : 0 < b ^ k.toNat) (hd : 0 < d) (n : Int) : ∃ m : Int, 0 ≤ m ∧ m < d * b ^ k.toNat ∧ n % d = m % d ∧ beh b k t n % d = beh b k t m % d := by
  have h : 0 < d * b ^ k.toNat := Int.mul_pos hd hB
  refine ⟨n % (d * b ^ k.toNat), Int.emod_nonneg _ (by omega), Int.emod_lt_of_pos _ h, ?_, ?_⟩
  · rw [Int.emod_emod_of_dvd _ (Int.dvd_mul_right d _)]
  · have e := Int.mul_ediv_add_emod n (d * b ^ k.toNat)
    rw [Int.mul_comm] at e
    have q := beh_turn (t := t) (d := d) (q := n / (d * b ^ k.toNat)) (m := n % (d * b ^ k.toNat)) hB
    rw [e] at q
    rw [q, Int.add_comm, Int.add_mul_emod_self_right]
theorem unl_all {b k t d : Int} (hB : 0 < b ^ k.toNat) (hd : 0 < d) (h : fstB (unl b k t d) (d * b ^ k.toNat).toNat = none) (n : Int) : unl b k t d n = false := by
  obtain ⟨m, h0, h1, e1, e2⟩ := turn_of (t := t) hB hd n
  have q := fstB_none h h0 (by omega)
  unfold unl at *
  rw [e1, e2]; exact q
theorem fls_all {b k t d : Int} (hB : 0 < b ^ k.toNat) (hd : 0 < d) (h : fstB (fls b k t d) (d * b ^ k.toNat).toNat = none) (n : Int) : fls b k t d n = false := by
  obtain ⟨m, h0, h1, e1, e2⟩ := turn_of (t := t) hB hd n
  have q := fstB_none h h0 (by omega)
  unfold fls at *
  rw [e1, e2]; exact q
section
variable {H : Hp} {Q : VK}
theorem a_neB {p q : Bool} (h : Q (.bl (p != q)) H) : rNe (.bl p) (.bl q) H Q := ⟨rfl, by rw [dec_bl]; exact h⟩
theorem a_eqB {p q : Bool} (h : Q (.bl (p == q)) H) : rEq (.bl p) (.bl q) H Q := ⟨rfl, by rw [dec_bl]; exact h⟩
theorem a_isO1 (h : Q (.bl true) H) : rIsN (optV none) .non H Q := a_isN1 h
theorem a_isO0 {n : Int} (h : Q (.bl false) H) : rIsN (optV (some n)) .non H Q := a_isN0 (fun z => by cases z) h
theorem a_notO1 (h : Q (.bl false) H) : rNotN (optV none) .non H Q := a_notN1 h
theorem a_notO0 {n : Int} (h : Q (.bl true) H) : rNotN (optV (some n)) .non H Q := a_notN0 (fun z => by cases z) h
theorem a_neO {o : Option Int} (h : Q (.bl false) H) : rNe (optV o) (optV o) H Q := by
  refine ⟨?_, ?_⟩
  · cases o <;> rfl
  · rw [decide_eq_true rfl]; exact h
end
end R
namespace R
open PySem PySem.Spec PyProof.Rows L2
theorem a_par3 {i j l : Nat} {tr : TA} {D : Ends} {σ : L2.St} {H : Hp} (h : tr σ H fun vs H1 => ∃ u v w, vs = [u, v, w] ∧ D.nx (((σ.set i (some u)).set j (some v)).set l (some w)) H1) : tPar3 i j l tr D σ H := h
theorem a_par33 {x y z : V} {A : V → V → V → Prop} (h : A x y z) : ∃ u v w, [x, y, z] = [u, v, w] ∧ A u v w := ⟨x, y, z, rfl, h⟩
end R

/-! ## rows of tricks: a list or a tuple -/
namespace R
open PySem PySem.Spec PyProof.Rows L2
open PySem.W (Frag)
def EAt (H : Hp) (a : Addr) (xs : List V) : Prop := H a = some (.lst xs) ∨ H a = some (.tup xs)
theorem EAt.up {B H : Hp} {a : Addr} {xs : List V} (s : Same B H) (h : EAt B a xs) : EAt H a xs := h.imp (s _ _) (s _ _)
/-- two rules for one walk -/
def iEi (w1 w2 : TI) : TI := fun σ H RR => w1 σ H RR ∨ w2 σ H RR
theorem pi_either {X : Cx} {tg it : Expr} {w1 w2 : TI} (h1 : PI X tg it w1) (h2 : PI X tg it w2) : PI X tg it (iEi w1 w2) :=
  ⟨fun pins s σ H RR I h => h.elim (h1.run pins s σ H RR I) (h2.run pins s σ H RR I)⟩
section
variable {K : Frag} {B H : Hp} {a : Addr} {xs : List V} {v : Nat} {σ : L2.St} {g : TG} {tb : TS} {D : Ends} {Q : VK}
theorem for_E (hB : EAt B a xs) (hv : σ[v]? = some (some (.ref a))) (Pv : Nat → L2.St → Hp → Prop) (h0 : Pv 0 σ H) (hS : ∀ i σ H, Pv i σ H → Same B H)
    (hs : ∀ i x σ H, xs[i]? = some x → Pv i σ H → g x σ H fun σ2 H2 => tb { D with nx := Pv (i + 1), ct := Pv (i + 1), bk := D.nx } σ2 H2) (hd : ∀ σ H, Pv xs.length σ H → D.nx σ H) : tFor (iEi (iList K (tVar v)) (iTup K (tVar v))) g tb D σ H := by
  refine a_for ?_
  rcases hB with hB | hB
  · have sq : ∀ i σ H, Pv i σ H → SqL K H a xs := fun i σ H p => SqL.of (hS i σ H p _ _ hB)
    refine .inl (a_iL (a_var hv ⟨a, rfl, ⟨xs, sq _ _ _ h0⟩, ?_⟩))
    exact for_it walk_list Pv h0 (fun i σ H _ p => sq i σ H p) (fun i x σ H H' hi p y => by obtain ⟨rfl, y⟩ := y; exact hs i x σ _ y p) hd
  · have sq : ∀ i σ H, Pv i σ H → SqT K H a xs := fun i σ H p => SqT.of (hS i σ H p _ _ hB)
    refine .inr (a_iT (a_var hv ⟨a, rfl, ⟨xs, sq _ _ _ h0⟩, ?_⟩))
    exact for_it walk_tup Pv h0 (fun i σ H _ p => sq i σ H p) (fun i x σ H H' hi p y => by obtain ⟨rfl, y⟩ := y; exact hs i x σ _ y p) hd
theorem for_enumE (hB : EAt B a xs) (hv : σ[v]? = some (some (.ref a))) (Pv : Nat → L2.St → Hp → Prop) (h0 : Pv 0 σ H) (hS : ∀ i σ H, Pv i σ H → Same B H)
    (hs : ∀ i x T σ H, xs[i]? = some x → Pv i σ H → H T = none → g (.ref T) σ (upd H T (.tup [.int (i : Nat), x])) fun σ2 H2 => tb { D with nx := Pv (i + 1), ct := Pv (i + 1), bk := D.nx } σ2 H2) (hd : ∀ σ H, Pv xs.length σ H → D.nx σ H) : tFor (iEi (iEnum K (tCons (tVar v) tNil)) (iEnumT K (tCons (tVar v) tNil))) g tb D σ H := by
  refine a_for ?_
  rcases hB with hB | hB
  · have sq : ∀ i σ H, Pv i σ H → SqL K H a xs := fun i σ H p => SqL.of (hS i σ H p _ _ hB)
    refine .inl (a_enum (a_cons (a_var hv (a_nil ⟨a, xs, rfl, sq _ _ _ h0, ?_⟩))))
    exact for_it walk_enum Pv h0 (fun i σ H _ p => sq i σ H p) (fun i x σ H H' hi p y => by
      obtain ⟨T, u, w, rfl, hT, rfl, e1, e2⟩ := y
      cases e1
      exact hs i w T σ H e2 p hT) hd
  · have sq : ∀ i σ H, Pv i σ H → SqT K H a xs := fun i σ H p => SqT.of (hS i σ H p _ _ hB)
    refine .inr (a_enumT (a_cons (a_var hv (a_nil ⟨a, xs, rfl, sq _ _ _ h0, ?_⟩))))
    exact for_it walk_enumT Pv h0 (fun i σ H _ p => sq i σ H p) (fun i x σ H H' hi p y => by
      obtain ⟨T, u, w, rfl, hT, rfl, e1, e2⟩ := y
      cases e1
      exact hs i w T σ H e2 p hT) hd
theorem a_lenE (h : EAt H a xs) (q : Q (.int xs.length) H) : rLen K [.ref a] H Q := ⟨a, xs, rfl, h.imp SqL.of SqT.of, q⟩
theorem a_isiE {tp : Addr} (h : EAt H a xs) (ht : H tp = some (.tup [.ty "list", .ty "tuple"])) (q : Q (.bl true) H) : rIsiT K [.ref a, .ref tp] H Q := by
  rcases h with h | h
  · exact ⟨_, tp, _, .type "list", [.type "list", .type "tuple"], true, rfl, ht, .cons (.ty _) (.cons (.ty _) .nil), .base (.lst h), kitAny_cons (b := true) (kit_ty (by decide +kernel)) (fun z => by cases z) (fun _ => rfl), q⟩
  · exact ⟨_, tp, _, .type "tuple", [.type "list", .type "tuple"], true, rfl, ht, .cons (.ty _) (.cons (.ty _) .nil), .base (.tup h), kitAny_cons (b := false) (kit_ty (by decide +kernel)) (fun _ => kitAny_cons (b := true) (kit_ty (by decide +kernel)) (fun z => by cases z) (fun _ => rfl)) (fun z => by cases z), q⟩
end
/-! the plain side: tricks one behind the other -/
abbrev Tr := Int × Int × Int
def TrOk (x : Tr) : Prop := (2 ≤ x.1 ∧ x.1 ≤ 16) ∧ (1 ≤ x.2.1 ∧ x.2.1 ≤ 2) ∧ -100 ≤ x.2.2 ∧ x.2.2 ≤ 100
def behT (x : Tr) (n : Int) : Int := beh x.1 x.2.1 x.2.2 n
def blk (x : Tr) : Int := x.1 ^ x.2.1.toNat
def behA : List Tr → Int → Int
  | [], n => n
  | x :: l, n => behA l (behT x n)
def wideA : List Tr → Int
  | [] => 1
  | x :: l => blk x * wideA l
theorem behA_snoc (x : Tr) : ∀ (l : List Tr) (n : Int), behA (l ++ [x]) n = behT x (behA l n)
  | [], _ => rfl
  | y :: l, n => behA_snoc x l (behT y n)
theorem wideA_snoc (x : Tr) : ∀ l : List Tr, wideA (l ++ [x]) = wideA l * blk x
  | [] => by show blk x * 1 = 1 * blk x; rw [Int.mul_one, Int.one_mul]
  | y :: l => by
    show blk y * wideA (l ++ [x]) = blk y * wideA l * blk x
    rw [wideA_snoc x l, Int.mul_assoc]
theorem behA_take {l : List Tr} {i : Nat} (h : i < l.length) (n : Int) : behA (l.take (i + 1)) n = behT l[i] (behA (l.take i) n) := by
  rw [List.take_succ_eq_append_getElem h, behA_snoc]
theorem wideA_take {l : List Tr} {i : Nat} (h : i < l.length) : wideA (l.take (i + 1)) = wideA (l.take i) * blk l[i] := by
  rw [List.take_succ_eq_append_getElem h, wideA_snoc]
theorem blk_pos {x : Tr} (h : TrOk x) : 2 ≤ blk x := by
  obtain ⟨h1, h2, _⟩ := h
  unfold blk
  have e : x.2.1 = 1 ∨ x.2.1 = 2 := by omega
  rcases e with e | e
  · rw [e]
    have z : x.1 ^ (1 : Int).toNat = x.1 := by rw [show (1 : Int).toNat = 1 from rfl, Int.pow_succ, Int.pow_zero, Int.one_mul]
    rw [z]; omega
  · rw [e]
    have z : x.1 ^ (2 : Int).toNat = x.1 * x.1 := by rw [show (2 : Int).toNat = 2 from rfl, Int.pow_succ, Int.pow_succ, Int.pow_zero, Int.one_mul]
    rw [z]
    have q : x.1 * 2 ≤ x.1 * x.1 := Int.mul_le_mul_of_nonneg_left h1.1 (by omega)
    omega
theorem wideA_pos : ∀ {l : List Tr}, (∀ x ∈ l, TrOk x) → 0 < wideA l
  | [], _ => by show (0 : Int) < 1; omega
  | x :: l, h => Int.mul_pos (by have := blk_pos (h x List.mem_cons_self); omega) (wideA_pos fun y hy => h y (List.mem_cons_of_mem _ hy))
def unlA (l : List Tr) (d n : Int) : Bool := !decide (n % d = behA l n % d)
def flsA (l : List Tr) (d n : Int) : Bool := decide (n % d = 0) != decide (behA l n % d = 0)
theorem behT_add {x : Tr} (h : TrOk x) (n m : Int) : behT x (n + m * blk x) = behT x n + m := by
  have hb := blk_pos h
  unfold behT beh
  unfold blk at *
  generalize x.1 ^ x.2.1.toNat = B at *
  rw [Int.add_mul_ediv_right _ _ (by omega), Int.add_mul_emod_self_right]
  omega
theorem behA_add : ∀ {l : List Tr}, (∀ x ∈ l, TrOk x) → ∀ n m : Int, behA l (n + m * wideA l) = behA l n + m
  | [], _, n, m => by show n + m * 1 = n + m; rw [Int.mul_one]
  | x :: l, h, n, m => by
    show behA l (behT x (n + m * (blk x * wideA l))) = behA l (behT x n) + m
    rw [← Int.mul_assoc, Int.mul_comm m (blk x), Int.mul_assoc, Int.mul_comm (blk x), behT_add (h x List.mem_cons_self)]
    exact behA_add (fun y hy => h y (List.mem_cons_of_mem _ hy)) _ _
theorem turnA {l : List Tr} (h : ∀ x ∈ l, TrOk x) {d : Int} (hd : 0 < d) (n : Int) : ∃ m : Int, 0 ≤ m ∧ m < d * wideA l ∧ n % d = m % d ∧ behA l n % d = behA l m % d := by
  have hw := Int.mul_pos hd (wideA_pos h)
  refine ⟨n % (d * wideA l), Int.emod_nonneg _ (by omega), Int.emod_lt_of_pos _ hw, ?_, ?_⟩
  · rw [Int.emod_emod_of_dvd _ (Int.dvd_mul_right d _)]
  · have e := Int.mul_ediv_add_emod n (d * wideA l)
    have q := behA_add h (n % (d * wideA l)) (d * (n / (d * wideA l)))
    have z : n % (d * wideA l) + d * (n / (d * wideA l)) * wideA l = n := by
      rw [Int.mul_assoc, Int.mul_comm (n / (d * wideA l)), ← Int.mul_assoc]; omega
    rw [z] at q
    rw [q, Int.add_mul_emod_self_left]
theorem unlA_all {l : List Tr} (h : ∀ x ∈ l, TrOk x) {d : Int} (hd : 0 < d) (e : fstB (unlA l d) (d * wideA l).toNat = none) (n : Int) : unlA l d n = false := by
  obtain ⟨m, h0, h1, e1, e2⟩ := turnA h hd n
  have q := fstB_none e h0 (by omega)
  unfold unlA at *
  rw [e1, e2]; exact q
theorem flsA_all {l : List Tr} (h : ∀ x ∈ l, TrOk x) {d : Int} (hd : 0 < d) (e : fstB (flsA l d) (d * wideA l).toNat = none) (n : Int) : flsA l d n = false := by
  obtain ⟨m, h0, h1, e1, e2⟩ := turnA h hd n
  have q := fstB_none e h0 (by omega)
  unfold flsA at *
  rw [e1, e2]; exact q
end R

/-! ## own exceptions: classes under an own base, several clauses, calls of a value -/
namespace R
open PySem PySem.Spec PyProof.Rows L2
open PySem.W (Frag)
/-- what the own base must have so that Base.__init__ is ValueError's -/
structure OinC (K : Frag) (C : Addr) : Prop where
  rd : PySem.W.readsIn K C (.type "type") = true
  ga : PySem.W.specialIn K (.ref C) "__getattribute__" = some (some (.builtin "type.__getattribute__"))
  at_ : PySem.W.findCls K (.ref C) (.type "type") "__init__" = some (.val (.builtin "ValueError.__init__"))
section
variable {X : Cx} {x : Str} {CT : Addr} {e : Expr} {es : List Expr} {ta : TA} {p1 p2 pos : Pos}
theorem pe_oeinit {pl : Sem Bool} (hg : Gl X x) (hm : X.mg x = some (.ref CT)) (T : OinC X.K CT) (ha : PA X (e :: es) ta) (hdb : (x == ("__debug__" : Str)) = false := by decide)
    (hc : eval (.Call (.Attribute (.Name x p1) "__init__" p2) (e :: es) [] pos) X.env = (do
      let ov ← eval (.Name x p1) X.env
      standAt p2.atName
      let (f, first) ← holding [ov] (getMethod ov "__init__" pl)
      callWith pos f first (backTo pos (starEach (e :: es) X.env)) (backToKw pos (keywordEach [] X.env))) := by rfl)
    (he : starEach (e :: es) X.env = (false, eval e X.env) :: starEach es X.env := by rfl) (hpl : (backTo pos (starEach es X.env)).any (·.1) = false := by rfl) :
    PE X (.Call (.Attribute (.Name x p1) "__init__" p2) (e :: es) [] pos) (tVeI X.K ta) := by
  refine ⟨fun pins s σ H Q I h => ?_⟩
  refine PySem.W.methodCall_KW (ld_glob I hg hm ?_ hdb) hc
  refine PySem.W.method_cls I.kIn T.ga (PySem.W.cls_value I.kIn T.rd T.at_ (by decide +kernel) ?_)
  show wpAny _ _ (callWith pos (Value.builtin "ValueError.__init__") [] (backTo pos (starEach (e :: es) X.env)) []) _ _ _
  refine PyProof.Rows.callWith_method1 (thn (ha.run pos pins _ σ H _ (I.tok _) h) fun us s1 ⟨vs, H1, I1, r1, a, C, ws, ev, hl, T, ea, q⟩ => ?_) he hpl
  subst ev
  cases r1 with
  | @cons _ u0 _ ur ra rw' =>
    obtain rfl : u0 = Value.ref a := ra
    have hlen : ur.length ≤ sizeLine := by
      rw [← Paired.length rw', sizeLine_eq]
      omega
    exact oinit_ok T I1 ea hlen fun s' J => ⟨.non, H1, J, rfl, q⟩
end
/-- what an __init__ of an own exception promises: without a field, with one -/
def sp_exc0 (C : Addr) : Sp := fun vs H Q _ => ∃ a, vs = [.ref a] ∧ H a = some (exo a C none) ∧ Q .non H
def sp_exc1 (C : Addr) (f : Str) : Sp := fun vs H Q _ => ∃ a v, vs = [.ref a, v] ∧ H a = some (exo a C none) ∧ ∀ dx, H dx = none → dx ≠ a → Q .non (upd (upd H dx (exd dx [(f, v)])) a (exo a C (some dx)))
theorem del_upd {H : Hp} {a : Addr} {o : HO} (h : H a = none) : del (upd H a o) a = H := by
  funext b
  by_cases z : b = a
  · rw [z, del_same, h]
  · rw [del_ne z, upd_ne z]
section
variable {X : Cx}
theorem mk_endN {pins : List (Addr × Obj)} {σ : L2.St} {H1 H2 : Hp} {Q : XK} {hp hp2 h2 : Heap} {g1 g2 : Array GenState} {d1 d2 : Drawn} {t1 t2 : Nat} {os1 os2 : OsState} {a C : Addr} (T : Raises X (.ref C)) (I1 : Inv X pins σ H1 ⟨hp, g1, d1, t1, os1⟩)
    (ha : hp.objs.size ≤ a) (k : ∀ b o, hp.get? b = some o → hp2.get? b = some o) (un : Un (frs X.stack) [] (upd H1 a (exo a C none)) H2 hp2 h2) (hok : HOk X.prog X.w H2 h2) (ho : os2 = os1) (hb : AllBare g2)
    (ea : H2 a = some (exo a C none)) (q : Q (.ref C) none (del H2 a)) : MkP X pins σ Q (.ref a) ⟨h2, g2, d2, t2, os2⟩ := by
  obtain ⟨t0, hoe⟩ := exo_at hok ea
  have hn : H1 a = none := I1.hok.fresh ha
  obtain ⟨G, g1', g2'⟩ := restrict h2 fun b => decide (b ≠ a)
  have gk : ∀ b, b ≠ a → G.get? b = h2.get? b := fun b hb => g1' b (decide_eq_true hb)
  have ge : G.get? a = none := g2' a (by simp)
  have nha : ∀ {b : Addr} {o : Obj}, hp.get? b = some o → b ≠ a := fun {b o} z => Nat.ne_of_lt (Nat.lt_of_lt_of_le (Heap.lt_size z) ha)
  have up : ∀ {b : Addr}, b ≠ a → H1 b = none → upd H1 a (exo a C none) b = none := fun {b} hb n => by rw [upd_ne hb]; exact n
  have U : Un (frs X.stack) [] H1 (del H2 a) hp G := {
    keep := fun b o z n hf hx => by
      rw [gk b (nha z)]
      exact un.keep b o (k b o z) (up (nha z) n) hf hx
    slot := fun b o z n hf hx => by
      rw [gk b (nha z)]
      exact un.slot b o (k b o z) (up (nha z) n) hf hx
    free := fun b o z n hx => by
      rw [del_ne (nha z)]
      exact un.free b o (k b o z) (up (nha z) n) hx
    there := fun b o z hx => by
      rw [gk b (nha z)]
      exact un.there b o (k b o z) hx
    tups := fun b xs z => by
      rw [del_ne (ne_of_none z hn)]
      exact un.tups b xs (by rw [upd_ne (ne_of_none z hn)]; exact z)
    frzs := fun b o v z => by
      rw [del_ne (ne_of_none z hn)]
      exact un.frzs b o v (by rw [upd_ne (ne_of_none z hn)]; exact z)
    tbls := fun b ps z => by
      rw [del_ne (ne_of_none z hn)]
      exact un.tbls b ps (by rw [upd_ne (ne_of_none z hn)]; exact z) }
  have hok3 : HOk X.prog X.w (del H2 a) G := fun b o z => by
    have hba : b ≠ a := fun e => by
      rw [e, del_same] at z
      cases z
    rw [del_ne hba] at z
    have noa : ∀ {c : Addr}, H2 c = some (.own b) → c ≠ a := fun {c} hc => at_ne ea hc exo_own
    exact (hok b o z).stay (fun c v hc y => by
        have hca : c ≠ a := by
          rcases hc with hc | hc
          · rw [hc]
            exact hba
          · exact noa hc
        rw [gk c hca]
        exact y)
      (fun c hc => by rw [del_ne (noa hc)]; exact hc) (fun c xs hc => by rw [del_ne (at_ne ea hc exo_tup)]; exact hc)
  have J : Inv X pins σ (del H2 a) ⟨G, g2, d2, t2, os2⟩ := I1.call' (ch := []) ho U hok3 hb (fun b z => absurd z (by simp))
  refine ⟨a, _, _, ⟨G, g2, d2, t2, os2⟩, _, .ref C, none, rfl, J, fun b o z => ?_, ge, hoe, ⟨rfl, rfl⟩, rfl, rfl, del_same, rfl, hb, T, q⟩
  by_cases hba : b = a
  · rw [hba, ge] at z
    cases z
  · exact (gk b hba).symm.trans z
variable {x : Str} {C fI : Addr} {k : Nat} {fd : FuncData} {ps : List Str} {p pos pos2 : Pos} {W : WX} {f : Str} {e : Expr} {ta : TA}
/-- C() -/
theorem pmk_bad0 (T : OexC X.K C) (iC : PySem.W.findIn X.K (.ref C) "__init__" = some (some (.ref fI))) (tI : PySem.W.typeIn X.K (.ref fI) = some (.type "function"))
    (F1 : FnOk X.prog X.w X.K X.mg X.base CX0 k fI fd ps (sp_exc0 C)) (hr : Room (k + 1) X.A) (hb : Binds X.K fd ps []) (hg : Gl X x) (hm : X.mg x = some (.ref C)) (hdb : (x == ("__debug__" : Str)) = false := by decide) :
    PMk X (.Call (.Name x p) [] [] pos) (fun _ H Q => Q (.ref C) none H) := by
  intro pins s σ H Q I h
  obtain ⟨nm, q, N, bs, bm, sn, sub, ab, col, dd, k0, k1, k2, k3, k5, hC, hbm⟩ := T.cls
  refine wpAny_Call_Name_kw (ld_glob I hg hm ?_ hdb)
  refine PySem.W.callWith_K0 I.kIn T.kC ?_
  show wpAny _ _ (call (.ref C) []) _ _ _
  obtain ⟨hp, g, dr, tk, os⟩ := s
  have hsz : hp.objs.size ≤ hp.objs.size + 1 := Nat.le_succ _
  have hn : H (hp.objs.size + 1) = none := I.hok.fresh hsz
  have hq : sp_exc0 C [V.ref (hp.objs.size + 1)] (upd H (hp.objs.size + 1) (exo (hp.objs.size + 1) C none)) (fun v H2 => v = .non ∧ H2 (hp.objs.size + 1) = some (exo (hp.objs.size + 1) C none) ∧ Q (.ref C) none (del H2 (hp.objs.size + 1))) (fun _ _ _ => False) :=
    ⟨_, rfl, upd_same, rfl, upd_same, by rw [del_upd hn]; exact h⟩
  have kk : ∀ b o, hp.get? b = some o → ((hp.push (PySem.W.kdv_tup [])).push (PySem.HandSPX.excO C hp.objs.size)).get? b = some o := fun b o e => Heap.get?_push_of_some _ (Heap.get?_push_of_some _ e)
  have hget : ((hp.push (PySem.W.kdv_tup [])).push (PySem.HandSPX.excO C hp.objs.size)).get? (hp.objs.size + 1) = some (PySem.HandSPX.excO C hp.objs.size) := by heap_get
  have I2 : Inv X pins σ (upd H (hp.objs.size + 1) (exo (hp.objs.size + 1) C none)) ⟨(hp.push (PySem.W.kdv_tup [])).push (PySem.HandSPX.excO C hp.objs.size), g, dr, tk, os⟩ :=
    I.laid (t' := tk) (a := hp.objs.size + 1) (o := exo (hp.objs.size + 1) C none) (h' := (hp.push (PySem.W.kdv_tup [])).push (PySem.HandSPX.excO C hp.objs.size)) kk hsz (exo_ok hget)
  have r2 : Vals [V.ref (hp.objs.size + 1)] [Value.ref (hp.objs.size + 1)] := .cons rfl .nil
  have hl : ([Value.ref (hp.objs.size + 1)] ++ []).length = ps.length := by
    have e := r2.length
    rw [F1.len _ _ _ _ hq] at e
    exact e.symm
  refine wpAny_call (PySem.HandSPX.call_own F.excBase_ValueError (fun Y => PySem.HandSPX.refsVE_contains Y bm hbm) (I.kIn _ _ hC) (PySem.W.looks_findIn I.kIn iC) (fun self => PySem.W.bind_fn I.kIn self tI) (Nat.zero_le _)
    (codeAny_mono (F1.run _ X.stack _ _ ⟨[Value.ref (hp.objs.size + 1)], []⟩ [Value.ref (hp.objs.size + 1)] _ _ (fun _ _ _ => False) (hr.make C [] []) (I2.env0.make C [] []) (hb _ [Value.ref (hp.objs.size + 1)] I2.kIn hl) r2 hq) fun r s' hq' => ?_))
  cases r with
  | error er => exact hq'.elim
  | ok fl =>
    cases fl with
    | ret u =>
      obtain ⟨v, H2, os2, bare2, un2, hok2, rv, ev, ea, q2⟩ := hq'
      subst ev
      obtain ⟨h2, g2, d2, t2, os'⟩ := s'
      exact ⟨rv, mk_endN (raises_own T.exC T.tyC) I hsz kk un2 hok2 os2 bare2 ea q2⟩
    | next => exact False.elim hq'
    | brk => exact False.elim hq'
    | cont => exact False.elim hq'
def tRaise0 (C : Addr) (W : WX) : TS := fun _ σ H => W (.ref C) none σ H
def R1 (C : Addr) (f : Str) (vs : List V) (H1 : Hp) (Q : XK) : Prop := vs.length ≤ 1000 ∧ ∀ a, H1 a = none → sp_exc1 C f (.ref a :: (vs ++ [])) (upd H1 a (exo a C none))
  (fun v H2 => v = .non ∧ ∃ (d : Addr) (fs : List (Str × V)), H2 a = some (exo a C (some d)) ∧ H2 d = some (exd d fs) ∧ H1 d = none ∧ Q (.ref C) (some d) (upd (del H2 a) d (.xd fs))) (fun _ _ _ => False)
def tRaise1 (C : Addr) (f : Str) (W : WX) (ta : TA) : TS := fun _ σ H => ta σ H fun vs H1 => R1 C f vs H1 fun cls d H' => W cls d σ H'
theorem ps_raise0 (hc : X.calm = true) (tk : Takes X W) (T : OexC X.K C) (iC : PySem.W.findIn X.K (.ref C) "__init__" = some (some (.ref fI))) (tI : PySem.W.typeIn X.K (.ref fI) = some (.type "function"))
    (F1 : FnOk X.prog X.w X.K X.mg X.base CX0 k fI fd ps (sp_exc0 C)) (hr : Room (k + 1) X.A) (hb : Binds X.K fd ps []) (hg : Gl X x) (hm : X.mg x = some (.ref C)) (hdb : (x == ("__debug__" : Str)) = false := by decide) :
    PS X (.Raise (some (.Call (.Name x p) [] [] pos)) none pos2) (tRaise0 C W) := ps_raise hc tk (pmk_bad0 T iC tI F1 hr hb hg hm hdb)
theorem ps_raise1 (hc : X.calm = true) (tk : Takes X W) (T : OexC X.K C) (iC : PySem.W.findIn X.K (.ref C) "__init__" = some (some (.ref fI))) (tI : PySem.W.typeIn X.K (.ref fI) = some (.type "function"))
    (F1 : FnOk X.prog X.w X.K X.mg X.base CX0 k fI fd ps (sp_exc1 C f)) (hr : Room (k + 1) X.A) (hb : Binds X.K fd ps []) (hg : Gl X x) (hm : X.mg x = some (.ref C)) (ha : PA X [e] ta) (hdb : (x == ("__debug__" : Str)) = false := by decide)
    (he : starEach (e :: []) X.env = (false, eval e X.env) :: starEach [] X.env := by rfl) (hpl : (backTo pos (starEach [] X.env)).any (·.1) = false := by rfl) :
    PS X (.Raise (some (.Call (.Name x p) [e] [] pos)) none pos2) (tRaise1 C f W ta) := ps_raise hc tk (pmk_oex T iC tI F1 hr hb .nil (fun _ _ _ _ _ _ _ z => z.elim) hg hm ha hdb he hpl)
theorem a_raise0 {D : Ends} {σ : L2.St} {H : Hp} (h : W (.ref C) none σ H) : tRaise0 C W D σ H := h
theorem a_raise1 {D : Ends} {σ : L2.St} {H : Hp} (h : ta σ H fun vs H1 => R1 C f vs H1 fun cls d H' => W cls d σ H') : tRaise1 C f W ta D σ H := h
theorem a_r1 {v : V} {H1 : Hp} {Q : XK} (h : ∀ d, H1 d = none → Q (.ref C) (some d) (upd H1 d (.xd [(f, v)]))) : R1 C f [v] H1 Q := by
  refine ⟨(by show 1 ≤ 1000; decide), fun a ha => ⟨a, v, rfl, upd_same, fun dx hdx ne => ⟨rfl, dx, [(f, v)], upd_same, ?_, ?_, ?_⟩⟩⟩
  · rw [upd_ne ne, upd_same]
  · rw [upd_ne ne] at hdx; exact hdx
  · have hd1 : H1 dx = none := by rw [upd_ne ne] at hdx; exact hdx
    have e : upd (del (upd (upd (upd H1 a (exo a C none)) dx (exd dx [(f, v)])) a (exo a C (some dx))) a) dx (.xd [(f, v)]) = upd H1 dx (.xd [(f, v)]) := by
      funext b
      by_cases z : b = dx
      · rw [z, upd_same, upd_same]
      · rw [upd_ne z, upd_ne z]
        by_cases y : b = a
        · rw [y, del_same, ha]
        · rw [del_ne y, upd_ne y, upd_ne z, upd_ne y]
    rw [e]
    exact h dx hd1
end
/-! ### readings of the __init__s -/
section
variable {K : Frag} {ta : TA} {to te : TE} {f : Str} {σ : L2.St} {H : Hp} {Q : VK} {D : Ends}
theorem a_vei (h : ta σ H fun vs H1 => ∃ (a C : Addr) (ws : List V), vs = .ref a :: ws ∧ ws.length ≤ 1000 ∧ OexC K C ∧ H1 a = some (exo a C none) ∧ Q .non H1) : tVeI K ta σ H Q := h
def rOst (K : Frag) (f : Str) (y x : V) (H2 : Hp) (P : Hp → Prop) : Prop := ∃ a C : Addr, x = .ref a ∧ OexC K C ∧ PySem.W.findIn K (.ref C) f = some none ∧
  ((H2 a = some (exo a C none) ∧ ∀ dx, H2 dx = none → dx ≠ a → P (upd (upd H2 dx (exd dx [(f, y)])) a (exo a C (some dx)))) ∨
    ∃ (dx : Addr) (fs : List (Str × V)), H2 a = some (exo a C (some dx)) ∧ H2 dx = some (exd dx fs) ∧ fs.length ≤ 900 ∧ P (upd H2 dx (exd dx ((f, y) :: fs))))
theorem a_ost (h : te σ H fun y H1 => to σ H1 fun x H2 => rOst K f y x H2 fun H3 => D.nx σ H3) : tOst K f to te D σ H := h
end
/-! ### try: several clauses, with or without a name -/
def asTs (i : Nat) (ts : Addr → Value → Option Addr → TS) : Addr → Value → Option Addr → TS := fun a cls d D σ H =>
  ts a cls d { nx := fun σ' H' => D.nx (σ'.set i none) H', rt := D.rt, bk := fun σ' H' => D.bk (σ'.set i none) H', ct := fun σ' H' => D.ct (σ'.set i none) H' } (σ.set i (some (.ref a))) H
def wEx (K : Frag) (Wout : WX) (D : Ends) : List (Value × (Addr → Value → Option Addr → TS)) → WX
  | [] => Wout
  | (c, ts) :: r => fun cls d σ H => ∃ b, PySem.W.exmOne K cls c = some b ∧ (b = true → ∀ a, H a = none → ts a cls d D σ H) ∧ (b = false → wEx K Wout D r cls d σ H)
inductive HdsX (X : Cx) : List ExceptHandler → List (Value × (Addr → Value → Option Addr → TS)) → Prop
  | nil : HdsX X [] []
  | cons {x : Str} {c : Value} {ts : Addr → Value → Option Addr → TS} {b₀ : Stmt} {suite : List Stmt} {np pos' : Pos} {hds : List ExceptHandler} {l : List (Value × (Addr → Value → Option Addr → TS))} (hc : Names X x c)
      (hsu : ∀ (a : Addr) (oe : Obj) (cls : Value) (d : Option Addr) (pn : List (Addr × Obj)), Zc cls d oe → (∃ vs, oe.data = .fields vs) → PSs (X.suite a ((a, oe) :: pn)) (b₀ :: suite) (ts a cls d)) (r : HdsX X hds l) :
      HdsX X (.ExceptHandler (some (.Name x np)) none (b₀ :: suite) pos' :: hds) ((c, ts) :: l)
  | as {x n : Str} {c : Value} {i : Nat} {ts : Addr → Value → Option Addr → TS} {b₀ : Stmt} {suite : List Stmt} {np pos' : Pos} {hds : List ExceptHandler} {l : List (Value × (Addr → Value → Option Addr → TS))} (hi : X.N[i]? = some n) (hln : X.env.kindOf n = some .local) (hc : Names X x c)
      (hsu : ∀ (a : Addr) (oe : Obj) (cls : Value) (d : Option Addr) (pn : List (Addr × Obj)), Zc cls d oe → (∃ vs, oe.data = .fields vs) → PSs (X.suite a ((a, oe) :: pn)) (b₀ :: suite) (ts a cls d)) (r : HdsX X hds l) :
      HdsX X (.ExceptHandler (some (.Name x np)) (some n) (b₀ :: suite) pos' :: hds) ((c, asTs i ts) :: l)
def tTry (K : Frag) (Wout : WX) (l : List (Value × (Addr → Value → Option Addr → TS))) (tb : WX → TS) : TS := fun D σ H => tb (wEx K Wout D l) D σ H
section
variable {X : Cx} {body : List Stmt} {h₀ : ExceptHandler} {hds : List ExceptHandler} {l : List (Value × (Addr → Value → Option Addr → TS))} {pos : Pos} {tb : WX → TS} {Wout : WX}
theorem ps_try_mix (hs : X.stack = X.env :: X.outer) (hf : X.env.frame = some X.env.locals) (hN : X.N.Nodup) (tk : Takes X Wout)
    (hb : ∀ (W : WX) (pn : List (Addr × Obj)) (xe : Value → Shared → Prop), Takes (X.tr pn xe) W → PassesOwn (model X.prog X.w) X.A X.env xe → PSs (X.tr pn xe) body (tb W))
    (hh : HdsX X (h₀ :: hds) l) : PS X (.Try body (h₀ :: hds) [] [] pos) (tTry X.K Wout l tb) := by
  refine ⟨fun pins s σ H D I h => ?_⟩
  have ok := I.ok
  have hfr : X.A.frames = some (X.env :: X.outer) := by rw [ok.frames, hs]
  refine wpAny_Try_except ?_
  refine wpAny_mono ((hb (wEx X.K Wout D l) (X.pn ++ pins) (fun e s₁ => wpAny (model X.prog X.w) X.A (noteFrame e X.env) (fun _ s₂ => wpAny (model X.prog X.w) X.A (setFlight e none) (fun _ s₃ =>
    wpAny (model X.prog X.w) X.A (handleBy e X.env (h₀ :: hds)) (SP X pins D) X.xe s₃) X.xe s₂) X.xe s₁) (fun u s' xx => ?_) PassesOwn.looking).run [] s σ H D (I.toTry _) h) (fun f s1 hsp => ?_) (fun e s1 he => he)
  · obtain ⟨a, B, sI, pins', σ', H', cls, d, rfl, J', nb, up, sky, na, os, ag, w⟩ := xx
    have J : Inv X pins σ' H' sI := J'.ofTry ok
    have sky' : Sky B (X.env :: X.outer) a (Zc cls d) X.env.locals s'.heap := by rw [← hs]; exact sky
    show wpAny (model X.prog X.w) X.A (noteFrame (.ref a) X.env) _ _ _
    refine Sky.land Zc.steady hfr hf sky' fun h3 fl3 up3 => ?_
    have J3 : Inv X pins σ' H' { s' with heap := h3 } := J.landed nb fl3.1 (up.trans up3) os ag
    obtain ⟨oe3, vs3, he3, hz3, hd3⟩ := fl3.there
    have notFr : ∀ {h : Heap} {o : Obj} {vs : Array Value}, h.FunFrames B (X.env :: X.outer) → h.get? a = some o → o.data = .fields vs → a ∉ frs (X.env :: X.outer) := fun {h o vs} ff e dd hm => by
      obtain ⟨_, o', e', hnf⟩ := ff.mem hm
      rw [e] at e'; cases e'
      exact hnf _ dd
    have nfr := notFr fl3.2.2.1 he3 hd3
    have nL : a ≠ X.env.locals := fun z => nfr (List.mem_filterMap.mpr ⟨X.env, List.mem_cons_self, by rw [hf, z]⟩)
    have nF : a ∉ X.fs := fun hm => by
      obtain ⟨e, he, q⟩ := List.mem_filterMap.mp hm
      exact nfr (List.mem_filterMap.mpr ⟨e, List.mem_cons_of_mem _ he, q⟩)
    have S3 := J3.suite he3 hd3 na nL nF
    have LT : PySem.W.Looks (model X.prog X.w) h3 (typeOf (.ref a)) cls := fun A Q E s k q => wpAny_typeOf_ref (k _ _ he3) (by rw [hz3.1]; exact q)
    have test : ∀ {x : Str} {c : Value} {np : Pos} {Q : Value → Shared → Prop} {E : Value → Shared → Prop}, Names X x c → Q c { s' with heap := h3 } → wpAny (model X.prog X.w) (X.A.mark (some (.ref a))) (eval (.Name x np) X.env) Q E { s' with heap := h3 } := fun {x c np Q E} hc q => by
      obtain ⟨hg, hdbg, hm | ⟨hm, hv, hnn⟩⟩ := hc
      · exact ld_glob (X := X.suite a ((a, oe3) :: (X.pn ++ pins))) S3 hg hm q hdbg
      · exact ld_blt (X := X.suite a ((a, oe3) :: (X.pn ++ pins))) S3 hg hm hv q hnn hdbg
    have go : ∀ {hds' : List ExceptHandler} {l' : List (Value × (Addr → Value → Option Addr → TS))}, HdsX X hds' l' → wEx X.K Wout D l' cls d σ' H' →
        wpAny (model X.prog X.w) X.A (handleBy (.ref a) X.env hds') (SP X pins D) X.xe { s' with heap := h3 } := by
      intro hds' l' hk
      induction hk with
      | nil =>
        intro w
        refine wpAny_handleBy_nil ?_
        obtain ⟨k1, k2, k3, oe, vs, T, oT, ts', he, hz, hd, h1, hr⟩ := id fl3
        unfold PySem.passOn
        refine wpAny_bind (wpAny_field he hd h1 ?_)
        rw [if_neg (show ¬ ((Value.ref T == Value.none) = true) from by simp)]
        have fin : wpAny (model X.prog X.w) X.A (setFlight (.ref a) X.env.frame) (fun _ s4 => wpAny (model X.prog X.w) X.A (throw (.ref a) : Sem Flow) (SP X pins D) X.xe s4) X.xe { s' with heap := h3 } := by
          rw [hf]
          refine HandSPX.setFlight_upZ fl3 fun h4 hh4 up4 => wpAny_throw (tk _ _ ?_)
          exact ⟨a, B, sI, pins, σ', H', cls, d, rfl, J, nb, (up.trans up3).trans up4, .inr (.inr (by rw [hs]; exact hh4)), na, os, ag, w⟩
        first
          | exact wpAny_bind (wpAny_pure (wpAny_bind fin))
          | exact wpAny_bind fin
      | @cons x c ts b₀ suite np pos' hds2 l2 hc hsu r ih =>
        intro w
        obtain ⟨b, hb1, hyes, hno⟩ := w
        refine wpAny_handleBy_cons (codeAny_handlers_test ?_) (by intro q; cases q)
        have LM := PySem.W.exm_one (M := model X.prog X.w) (J3.kIn) LT hb1
        refine test hc (LM.here ?_)
        cases b with
        | true =>
          refine codeAny_handlers_suite ?_
          refine HandSPX.lands_againZ fl3 fun h4 fl4 up4 => ?_
          have J4 : Inv X pins σ' H' { s' with heap := h4 } := J.landed nb fl4.1 ((up.trans up3).trans up4) os ag
          obtain ⟨oe4, vs4, he4, hz4, hd4⟩ := fl4.there
          have S4 := J4.suite he4 hd4 na nL nF
          refine wpAny_mono ((hsu a oe4 cls d (X.pn ++ pins) hz4 ⟨_, hd4⟩).run [] _ _ H' _ S4 (hyes rfl a na)) (fun f s6 hsp => ?_) (fun _ _ z => False.elim z)
          cases f with
          | next =>
            obtain ⟨σ6, H6, S6, q6⟩ := hsp
            exact ⟨_, _, S6.unsuite ok, q6⟩
          | brk =>
            obtain ⟨σ6, H6, S6, q6⟩ := hsp
            exact ⟨_, _, S6.unsuite ok, q6⟩
          | cont =>
            obtain ⟨σ6, H6, S6, q6⟩ := hsp
            exact ⟨_, _, S6.unsuite ok, q6⟩
          | ret u =>
            obtain ⟨v6, σ6, H6, S6, r6, q6⟩ := hsp
            exact ⟨_, _, _, S6.unsuite ok, r6, q6⟩
        | false =>
          show wpAny _ X.A (handleBy (.ref a) X.env hds2) _ _ _
          exact ih (hno rfl)
      | @as x n c i ts b₀ suite np pos' hds2 l2 hi hln hc hsu r ih =>
        intro w
        obtain ⟨b, hb1, hyes, hno⟩ := w
        have hloc : Loc X.env.scope n := .inl hln
        refine wpAny_handleBy_cons (codeAny_handlers_test ?_) (by intro q; cases q)
        have LM := PySem.W.exm_one (M := model X.prog X.w) (J3.kIn) LT hb1
        refine test hc (LM.here ?_)
        cases b with
        | true =>
          refine codeAny_handlers_suite_as ?_
          refine HandSPX.lands_againZ fl3 fun h4 fl4 up4 => ?_
          have J4 : Inv X pins σ' H' { s' with heap := h4 } := J.landed nb fl4.1 ((up.trans up3).trans up4) os ag
          obtain ⟨oe4, vs4, he4, hz4, hd4⟩ := fl4.there
          have S4 := J4.suite he4 hd4 na nL nF
          refine store_ok (X := X.suite a ((a, oe4) :: (X.pn ++ pins))) (v := .ref a) S4 hN hi hloc rfl (fun s5 S5 => ?_) (.inr hln)
          refine wpAny_mono ((hsu a oe4 cls d (X.pn ++ pins) hz4 ⟨_, hd4⟩).run [] s5 _ H' _ S5 (hyes rfl a na)) (fun f s6 hsp => ?_) (fun _ _ z => False.elim z)
          have end_ : ∀ {σ6 : L2.St} {H6 : Hp} {Q : Shared → Prop}, Inv (X.suite a ((a, oe4) :: (X.pn ++ pins))) [] σ6 H6 s6 → (∀ s7, Inv X pins (σ6.set i none) H6 s7 → Q s7) →
              wpAny (model X.prog X.w) X.A (do bindName X.env n .none; unbindBehindTheSuite X.env n pos') (fun _ s7 => Q s7) X.xe s6 := fun {σ6 H6 Q} S6 hq => gone_ok (S6.unsuite ok) hN hi hln hq
          cases f with
          | next =>
            obtain ⟨σ6, H6, S6, q6⟩ := hsp
            exact end_ S6 fun s7 J7 => ⟨_, _, J7, q6⟩
          | brk =>
            obtain ⟨σ6, H6, S6, q6⟩ := hsp
            exact end_ S6 fun s7 J7 => ⟨_, _, J7, q6⟩
          | cont =>
            obtain ⟨σ6, H6, S6, q6⟩ := hsp
            exact end_ S6 fun s7 J7 => ⟨_, _, J7, q6⟩
          | ret u =>
            obtain ⟨v6, σ6, H6, S6, r6, q6⟩ := hsp
            exact end_ S6 fun s7 J7 => ⟨_, _, _, J7, r6, q6⟩
        | false =>
          show wpAny _ X.A (handleBy (.ref a) X.env hds2) _ _ _
          exact ih (hno rfl)
    exact go hh w
  · cases f with
    | next =>
      obtain ⟨σ', H', J', q⟩ := hsp
      exact wpAny_execs_nil ⟨σ', H', J'.ofTry ok, q⟩
    | brk =>
      obtain ⟨σ', H', J', q⟩ := hsp
      exact ⟨σ', H', J'.ofTry ok, q⟩
    | cont =>
      obtain ⟨σ', H', J', q⟩ := hsp
      exact ⟨σ', H', J'.ofTry ok, q⟩
    | ret u =>
      obtain ⟨v, σ', H', J', r, q⟩ := hsp
      exact ⟨v, σ', H', J'.ofTry ok, r, q⟩
end
section
variable {K : Frag} {Wout : WX} {D : Ends} {l r : List (Value × (Addr → Value → Option Addr → TS))} {tb : WX → TS} {σ : L2.St} {H : Hp} {cls c : Value} {d : Option Addr} {ts : Addr → Value → Option Addr → TS}
theorem a_try (h : tb (wEx K Wout D l) D σ H) : tTry K Wout l tb D σ H := h
theorem a_exNo (e : PySem.W.exmOne K cls c = some false) (h : wEx K Wout D r cls d σ H) : wEx K Wout D ((c, ts) :: r) cls d σ H := ⟨false, e, fun z => Bool.noConfusion z, fun _ => h⟩
theorem a_exYes (e : PySem.W.exmOne K cls c = some true) (h : ∀ a, H a = none → ts a cls d D σ H) : wEx K Wout D ((c, ts) :: r) cls d σ H := ⟨true, e, fun _ => h, fun z => Bool.noConfusion z⟩
theorem a_as {a : Addr} {i : Nat} (h : ts a cls d { nx := fun σ' H' => D.nx (σ'.set i none) H', rt := D.rt, bk := fun σ' H' => D.bk (σ'.set i none) H', ct := fun σ' H' => D.ct (σ'.set i none) H' } (σ.set i (some (.ref a))) H) : asTs i ts a cls d D σ H := h
theorem a_xf {te : TE} {Q : VK} {a C : Addr} {f : Str} (h : te σ H fun x H1 => x = .ref a ∧ cls = .ref C ∧ ∃ (dd : Addr) (fs : List (Str × V)) (v : V), d = some dd ∧ H1 dd = some (.xd fs) ∧ fs.lookup f = some v ∧ Q v H1) : tXf a cls d C f te σ H Q := h
end
/-! ### calls of a value; calls within a try's body -/
section
variable {X : Cx} {CX : CXT} {k : Nat} {f C : Addr} {fd : FuncData} {ps : List Str} {sp : Sp} {dvs : List V} {ds : List Value} {E : L2.St → XK} {x m : Str} {p pos : Pos} {e fe : Expr} {es : List Expr} {ta : TE} {t : TA}
/-- the def that stands at f, with what it promises -/
structure HeldX (X : Cx) (CX : CXT) (k : Nat) (f : Addr) (sp : Sp) : Prop where
  ex : ∃ (fd : FuncData) (ps : List Str), FnOk X.prog X.w X.K X.mg X.base CX k f fd ps sp ∧ PySem.W.keepIn X.K (.ref f) = true ∧ Binds X.K fd ps []
theorem heldX (F : FnOk X.prog X.w X.K X.mg X.base CX k f fd ps sp) (hk : PySem.W.keepIn X.K (.ref f) = true) (hb : Binds X.K fd ps []) : HeldX X CX k f sp := ⟨fd, ps, F, hk, hb⟩
theorem HeldX.mono {j : Nat} (h : HeldX X CX j f sp) (jk : j ≤ k) : HeldX X CX k f sp := by
  obtain ⟨fd, ps, F, hk, hb⟩ := h.ex
  exact ⟨fd, ps, F.mono jk, hk, hb⟩
theorem passAt0 {E : XK} (σ : L2.St) : PassesAt CX0 X σ E := fun _ _ _ _ _ _ h => h.elim
theorem held_nil : ∀ q ∈ ([] : List (Addr × Sp)), HeldX X CX k q.1 q.2 := fun _ h => by simp at h
theorem held_cons {S : List (Addr × Sp)} (h : HeldX X CX k f sp) (t : ∀ q ∈ S, HeldX X CX k q.1 q.2) : ∀ q ∈ (f, sp) :: S, HeldX X CX k q.1 q.2 := fun q hq => by
  rcases List.mem_cons.mp hq with rfl | hq
  · exact h
  · exact t q hq
def tCallV (S : List (Addr × Sp)) (E : L2.St → XK) (tf : TE) (t : TA) : TE := fun σ H Q => tf σ H fun v H1 => ∃ f sp, v = .ref f ∧ (f, sp) ∈ S ∧ t σ H1 fun vs H2 => sp vs H2 Q (E σ)
theorem pe_callV {S : List (Addr × Sp)} {tf : TE} (A : ∀ q ∈ S, HeldX X CX k q.1 q.2) (hr : Room k X.A) (hx : ∀ σ, PassesAt CX X σ (E σ)) (hf : PE X fe tf) (ha : PA X (e :: es) t)
    (hc : eval (.Call fe (e :: es) [] pos) X.env = (do callWith pos (← eval fe X.env) [] (backTo pos (starEach (e :: es) X.env)) (backToKw pos (keywordEach [] X.env))) := by rfl)
    (he : starEach (e :: es) X.env = (false, eval e X.env) :: starEach es X.env := by rfl) (hpl : (backTo pos (starEach es X.env)).any (·.1) = false := by rfl) :
    PE X (.Call fe (e :: es) [] pos) (tCallV S E tf t) := by
  refine ⟨fun pins s σ H Q I h => ?_⟩
  rw [hc]
  refine wpAny_bind (thn (hf.run pins s σ H _ I h) fun u s1 ⟨v, H1, I1, r1, f, sp, ev, hS, q1⟩ => ?_)
  subst ev
  obtain rfl : u = Value.ref f := r1
  obtain ⟨fd, ps, F, hk, hb⟩ := (A _ hS).ex
  refine PySem.W.callWith_K (h₀ := X.base) I.ok.mod.kin hk (thn (ha.run pos pins s1 σ _ _ I1 q1) fun us s2 ⟨vs, H2, I2, r, q⟩ => ⟨I2.kIn, ?_⟩) he hpl
  exact run_fnS F hr hb (hx σ) I2 r q
theorem a_meth {C : Addr} {dvs : List V} {E : XK} {σ : L2.St} {H : Hp} {Q : VK} (h : ta σ H fun x H1 => ∃ a dx fs, x = .ref a ∧ H1 a = some (.ins C dx fs) ∧ fs.lookup m = none ∧ t σ H1 fun vs H2 => sp (x :: (vs ++ dvs)) H2 Q E) : tMeth C m sp dvs E ta t σ H Q := h
theorem a_callV {S : List (Addr × Sp)} {tf : TE} {σ : L2.St} {H : Hp} {Q : VK} (h : tf σ H fun v H1 => ∃ f sp, v = .ref f ∧ (f, sp) ∈ S ∧ t σ H1 fun vs H2 => sp vs H2 Q (E σ)) : tCallV S E tf t σ H Q := h
theorem a_callS {σ : L2.St} {H : Hp} {Q : VK} (h : t σ H fun vs H1 => sp vs H1 Q (E σ)) : tCallS sp E t σ H Q := h
/-- an own instance made within a try's body -/
def tMakeS (C : Addr) (sp : Sp) (dvs : List V) (E : L2.St → XK) (t : TA) : TE := fun σ H Q => t σ H fun vs H1 => ∀ x dx, H1 x = none → H1 dx = none → dx ≠ x →
  sp (.ref x :: (vs ++ dvs)) (upd (upd H1 dx (.own x)) x (.ins C dx [])) (fun v H2 => v = .non ∧ Q (.ref x) H2) (E σ)
theorem run_makeS {pins : List (Addr × Obj)} {σ : L2.St} {H : Hp} {s : Shared} {Q : VK} {us : List Value} {vs : List V} (M : Mk X.K C f) (F : FnOk X.prog X.w X.K X.mg X.base CX k f fd ps sp) (hr : Room (k + 1) X.A) (hb : Binds X.K fd ps ds) (hd : Vals dvs ds)
    (hx : PassesAt CX X σ (E σ)) (I : Inv X pins σ H s) (r : Vals vs us)
    (h : ∀ x dx, H x = none → H dx = none → dx ≠ x → sp (.ref x :: (vs ++ dvs)) (upd (upd H dx (.own x)) x (.ins C dx [])) (fun v H2 => v = .non ∧ Q (.ref x) H2) (E σ)) :
    wpAny (model X.prog X.w) X.A (call (.ref C) us) (EP X pins σ Q) X.xe s := by
  have hq := h (s.heap.objs.size + 1) s.heap.objs.size (I.hok.fresh (Nat.le_succ _)) (I.hok.fresh (Nat.le_refl _)) (Nat.ne_of_lt (Nat.lt_succ_self _))
  have I2 := Inv.made (C := C) I
  have r2 : Vals (V.ref (s.heap.objs.size + 1) :: (vs ++ dvs)) (Value.ref (s.heap.objs.size + 1) :: (us ++ ds)) := .cons rfl (r.append hd)
  have hl : (Value.ref (s.heap.objs.size + 1) :: us ++ ds).length = ps.length := by
    have e := r2.length
    rw [F.len _ _ _ _ hq] at e
    exact e.symm
  refine wpAny_call (make_map (f := f) I.kIn M.makes M.init (beq_iff_eq.mp M.fn) (codeAny_mono (F.run _ X.stack _ _ ⟨Value.ref (s.heap.objs.size + 1) :: us, []⟩ (Value.ref (s.heap.objs.size + 1) :: (us ++ ds)) _ _ (E σ) (hr.make C us [])
    (I2.env0.make C us []) (hb _ (Value.ref (s.heap.objs.size + 1) :: us) I2.kIn hl) r2 hq) fun r s' hq' => ?_))
  cases r with
  | error e => exact hx pins _ _ e s' I2 hq'
  | ok fl =>
    cases fl with
    | ret u =>
      obtain ⟨v, H', I3, rv, ev, q3⟩ := I2.after hq'
      subst ev
      exact ⟨rv, ⟨V.ref (s.heap.objs.size + 1), H', I3, rfl, q3⟩⟩
    | next => exact False.elim hq'
    | brk => exact False.elim hq'
    | cont => exact False.elim hq'
theorem pe_makeS (M : Mk X.K C f) (F : FnOk X.prog X.w X.K X.mg X.base CX k f fd ps sp) (hr : Room (k + 1) X.A) (hg : Gl X x) (hm : X.mg x = some (.ref C)) (hb : Binds X.K fd ps ds) (hd : Vals dvs ds) (hx : ∀ σ, PassesAt CX X σ (E σ))
    (ha : PA X (e :: es) t) (hdb : (x == ("__debug__" : Str)) = false := by decide) (he : starEach (e :: es) X.env = (false, eval e X.env) :: starEach es X.env := by rfl) (hpl : (backTo pos (starEach es X.env)).any (·.1) = false := by rfl) :
    PE X (.Call (.Name x p) (e :: es) [] pos) (tMakeS C sp dvs E t) := by
  refine ⟨fun pins s σ H Q I h => ?_⟩
  refine wpAny_Call_Name_kw (ld_glob I hg hm ?_ hdb)
  refine PySem.W.callWith_K (h₀ := X.base) I.ok.mod.kin M.kp (thn (ha.run pos pins s σ H _ I h) fun us s1 ⟨vs, H1, I1, r, q⟩ => ⟨I1.kIn, ?_⟩) he hpl
  exact run_makeS M F hr hb hd (hx σ) I1 r q
theorem a_makeS {σ : L2.St} {H : Hp} {Q : VK} (h : t σ H fun vs H1 => ∀ x dx, H1 x = none → H1 dx = none → dx ≠ x → sp (.ref x :: (vs ++ dvs)) (upd (upd H1 dx (.own x)) x (.ins C dx [])) (fun v H2 => v = .non ∧ Q (.ref x) H2) (E σ)) : tMakeS C sp dvs E t σ H Q := h
end
end R
namespace R
open PySem PySem.Spec PyProof.Rows L2
/-- what is not reached -/
theorem pe_never {X : Cx} {e : Expr} : PE X e (fun _ _ _ => False) := ⟨fun _ _ _ _ _ _ h => h.elim⟩
theorem pt_never {X : Cx} {e : Expr} : PT X e (fun _ _ _ => False) := ⟨fun _ _ _ _ _ _ h => h.elim⟩
end R

/-! ## values of any kind -/
namespace R
open PySem PySem.Spec PyProof.Rows L2
open PySem.W (Frag)
inductive Odd (K : Frag) (H : Hp) : V → Prop
  | non : Odd K H .non
  | bl (b : Bool) : Odd K H (.bl b)
  | str (z : Str) : Odd K H (.str z)
  | lst {a : Addr} {xs : List V} (h : H a = some (.lst xs)) : Odd K H (.ref a)
  | tup {a : Addr} {xs : List V} (h : H a = some (.tup xs)) : Odd K H (.ref a)
  | dK {a : Addr} {kvs : List (Key × V)} (h : H a = some (.dK kvs)) : Odd K H (.ref a)
theorem Odd.same {K : Frag} {B H : Hp} {v : V} (s : Same B H) (h : Odd K B v) : Odd K H v := by
  cases h with
  | non => exact .non
  | bl b => exact .bl b
  | str z => exact .str z
  | lst h => exact .lst (s _ _ h)
  | tup h => exact .tup (s _ _ h)
  | dK h => exact .dK (s _ _ h)
/-- no int of the stretch -/
def OutR (K : Frag) (H : Hp) (v : V) (lo hi : Int) : Prop := Odd K H v ∨ ∃ i, v = .int i ∧ ¬ (lo ≤ i ∧ i ≤ hi)
theorem OutR.same {K : Frag} {B H : Hp} {v : V} {lo hi : Int} (s : Same B H) (h : OutR K B v lo hi) : OutR K H v lo hi := h.imp (·.same s) id
theorem OutR.int {K : Frag} {H : Hp} {i lo hi : Int} (h : i < lo ∨ hi < i) : OutR K H (.int i) lo hi := .inr ⟨i, rfl, by omega⟩
section
variable {K : Frag} {H : Hp} {v : V} {Q : VK}
theorem a_isiO (h : Odd K H v) (hb : ∀ b, v ≠ .bl b) (q : Q (.bl false) H) : rIsi K [v, .ty "int"] H Q := by
  cases h with
  | non => exact ⟨_, _, .type "NoneType", .type "int", false, rfl, .ty _, .base .non, kit_ty (by decide +kernel), q⟩
  | bl b => exact absurd rfl (hb b)
  | str z => exact ⟨_, _, .type "str", .type "int", false, rfl, .ty _, .base (.str z), kit_ty (by decide +kernel), q⟩
  | lst h => exact ⟨_, _, .type "list", .type "int", false, rfl, .ty _, .base (.lst h), kit_ty (by decide +kernel), q⟩
  | tup h => exact ⟨_, _, .type "tuple", .type "int", false, rfl, .ty _, .base (.tup h), kit_ty (by decide +kernel), q⟩
  | dK h => exact ⟨_, _, .type "dict", .type "int", false, rfl, .ty _, .base (.dK h), kit_ty (by decide +kernel), q⟩
theorem a_isiBI {b : Bool} (q : Q (.bl true) H) : rIsi K [.bl b, .ty "int"] H Q := ⟨_, _, .type "bool", .type "int", true, rfl, .ty _, .base (.bl b), kit_ty (by decide +kernel), q⟩
theorem a_isiBB {b : Bool} (q : Q (.bl true) H) : rIsi K [.bl b, .ty "bool"] H Q := ⟨_, _, .type "bool", .type "bool", true, rfl, .ty _, .base (.bl b), kit_ty (by decide +kernel), q⟩
end
end R
namespace R
open PySem PySem.Spec PyProof.Rows L2
open PySem.W (Frag)
/-- a flat value that is no int of the stretch, as data too -/
structure BadV (K : Frag) (lo hi : Int) (v : V) : Prop where
  out : ∀ H, OutR K H v lo hi
  flat : ∃ d : PyData, d.canLay0 = true ∧ d.depth ≤ 1 ∧ ∀ H, Dp K H v d
section
variable {K : Frag} {lo hi : Int} {v : V} {H : Hp} {Q : VK} {p q : Addr}
theorem BadV.non : BadV K lo hi .non := ⟨fun _ => .inl .non, .none, rfl, Nat.zero_le _, fun _ => .non⟩
theorem BadV.bl {b : Bool} : BadV K lo hi (.bl b) := ⟨fun _ => .inl (.bl b), .bool b, rfl, Nat.zero_le _, fun _ => .bl b⟩
theorem BadV.str {z : Str} (h : (PyData.str z).canLay0 = true) : BadV K lo hi (.str z) := ⟨fun _ => .inl (.str z), .str z, h, Nat.zero_le _, fun _ => .str z⟩
theorem BadV.int {i : Int} (h : i < lo ∨ hi < i) : BadV K lo hi (.int i) := ⟨fun _ => .int h, .int i, rfl, Nat.zero_le _, fun _ => .int i⟩
/-- [v] != [v] -/
theorem a_neOne (hv : ∃ d : PyData, d.canLay0 = true ∧ d.depth ≤ 1 ∧ ∀ H, Dp K H v d) (hp : SqL K H p [v]) (hq : SqL K H q [v]) (h : Q (.bl false) H) : rNeD K (.ref p) (.ref q) H Q := by
  obtain ⟨d, d1, d2, d3⟩ := hv
  refine a_neD (d := .list [d]) (.lst hp (.cons (d3 H) .nil)) (.lst hq (.cons (d3 H) .nil)) ?_ ?_ h
  · show (d.canLay0 && true) = true
    rw [d1]; rfl
  · show max d.depth 0 + 1 ≤ 64
    omega
theorem a_neS1 {z : Str} (h : Q (.bl false) H) : rNe (.str z) (.str z) H Q := ⟨rfl, by rw [decide_eq_true rfl]; exact h⟩
end
end R
namespace R
open PySem PySem.Spec PyProof.Rows L2
open PySem.W (Frag)
def isTy : Value → Bool
  | .type _ => true
  | _ => false
theorem kit_no {K : Frag} {C : Addr} {t : String} (hc : ((PySem.W.clsIn K C).isSome && PySem.W.typeIn K (.ref C) == some (.type "type")) = true) (hm : (PySem.fastBuiltinMro t).map (·.all isTy) = some true) : PySem.W.kitOne K (.type t) (.ref C) = some false := by
  obtain ⟨l, h1, h2⟩ := Option.map_eq_some_iff.mp hm
  have z : l.contains (Value.ref C) = false := by
    cases e : l.contains (Value.ref C) with
    | false => rfl
    | true =>
      have m : Value.ref C ∈ l := by simpa using e
      have y := List.all_eq_true.mp h2 _ m
      cases y
  show (if (Value.type t == Value.ref C) = true then some true else PySem.W.kitCls K (.type t) (.ref C)) = some false
  rw [if_neg (by intro y; rw [beq_iff_eq] at y; cases y)]
  show (if _ = true then (PySem.fastBuiltinMro t).map (·.contains (.ref C)) else none) = some false
  rw [if_pos hc, h1]
  show some (l.contains (Value.ref C)) = some false
  rw [z]
/-- no instance of an own class -/
def NoI (K : Frag) (H : Hp) (v : V) : Prop := Odd K H v ∨ ∃ i, v = .int i
theorem NoI.same {K : Frag} {B H : Hp} {v : V} (s : Same B H) (h : NoI K B v) : NoI K H v := h.imp (·.same s) id
theorem a_isiC {K : Frag} {H : Hp} {v : V} {Q : VK} {C : Addr} (hc : ((PySem.W.clsIn K C).isSome && PySem.W.typeIn K (.ref C) == some (.type "type")) = true) (h : NoI K H v) (q : Q (.bl false) H) : rIsi K [v, .ref C] H Q := by
  rcases h with h | ⟨i, rfl⟩
  · cases h with
    | non => exact ⟨_, _, .type "NoneType", .ref C, false, rfl, .own _, .base .non, kit_no hc (by decide +kernel), q⟩
    | bl b => exact ⟨_, _, .type "bool", .ref C, false, rfl, .own _, .base (.bl b), kit_no hc (by decide +kernel), q⟩
    | str z => exact ⟨_, _, .type "str", .ref C, false, rfl, .own _, .base (.str z), kit_no hc (by decide +kernel), q⟩
    | lst h => exact ⟨_, _, .type "list", .ref C, false, rfl, .own _, .base (.lst h), kit_no hc (by decide +kernel), q⟩
    | tup h => exact ⟨_, _, .type "tuple", .ref C, false, rfl, .own _, .base (.tup h), kit_no hc (by decide +kernel), q⟩
    | dK h => exact ⟨_, _, .type "dict", .ref C, false, rfl, .own _, .base (.dK h), kit_no hc (by decide +kernel), q⟩
  · exact ⟨_, _, .type "int", .ref C, false, rfl, .own _, .base (.int i), kit_no hc (by decide +kernel), q⟩
end R
namespace R
open PySem PySem.Spec PyProof.Rows L2
open PySem.W (Frag)
section
variable {K : Frag} {v : V} {H : Hp} {Q : VK} {p q : Addr}
/-- [v] == [v] -/
theorem a_eqOne (hv : ∃ d : PyData, d.canLay0 = true ∧ d.depth ≤ 1 ∧ ∀ H, Dp K H v d) (hp : SqL K H p [v]) (hq : SqL K H q [v]) (h : Q (.bl true) H) : rEqD K (.ref p) (.ref q) H Q := by
  obtain ⟨d, d1, d2, d3⟩ := hv
  refine a_eqD (d := .list [d]) (.lst hp (.cons (d3 H) .nil)) (.lst hq (.cons (d3 H) .nil)) ?_ ?_ h
  · show (d.canLay0 && true) = true
    rw [d1]; rfl
  · show max d.depth 0 + 1 ≤ 64
    omega
theorem a_eqS1 {z : Str} (h : Q (.bl true) H) : rEq (.str z) (.str z) H Q := ⟨rfl, by rw [decide_eq_true rfl]; exact h⟩
end
end R

/-! ## lists with the very same items; what a call lays goes into the base -/
namespace R
open PySem PySem.Spec PyProof.Rows L2
open PySem.W (Frag)
def SameIt (v : V) : Prop := flatB v = true ∨ ∃ a, v = .ref a
def rNeS (K : Frag) : R2 := fun x y H Q => ∃ a b xs, x = .ref a ∧ y = .ref b ∧ SqL K H a xs ∧ SqL K H b xs ∧ (∀ v ∈ xs, SameIt v) ∧ Q (.bl false) H
def rEqS (K : Frag) : R2 := fun x y H Q => ∃ a b xs, x = .ref a ∧ y = .ref b ∧ SqL K H a xs ∧ SqL K H b xs ∧ (∀ v ∈ xs, SameIt v) ∧ Q (.bl true) H
section
variable {X : Cx}
theorem sameIt_run {P : Program} {w : World} {A : Around} {s : Shared} : ∀ {xs : List V} {us ws : List Value}, (∀ v ∈ xs, SameIt v) → Vals xs us → Vals xs ws → ∀ j (h1 : j < us.length) (h2 : j < ws.length), SeqAt.EqAt A s us[j] ws[j] true := by
  intro xs us ws hf r1
  induction r1 generalizing ws with
  | nil =>
    intro _ j h1
    exact absurd h1 (Nat.not_lt_zero j)
  | cons a1 b1 ih =>
    intro r2 j h1 h2
    cases r2 with
    | cons a2 b2 =>
      cases j with
      | zero =>
        rcases hf _ List.mem_cons_self with f | ⟨a, rfl⟩
        · exact eqAt_same a1 a2 f
        · cases a1
          cases a2
          exact SeqAt.EqAt.same _
      | succ j => exact ih (fun v hv => hf v (List.mem_cons_of_mem _ hv)) b2 j (Nat.lt_of_succ_lt_succ h1) (Nat.lt_of_succ_lt_succ h2)
theorem op_neS (hu : X.A.units + 64 < cLine) : OpR X (compareOp .NotEq) (rNeS X.K) := by
  intro pins s σ H x y v u Q I rx ry h
  obtain ⟨a, b, xs, rfl, rfl, ha, hb, hf, q⟩ := h
  cases (show v = Value.ref a from rx)
  cases (show u = Value.ref b from ry)
  obtain ⟨us, r1, p1, _⟩ := I.list ha
  obtain ⟨ws, r2, p2, _⟩ := I.list hb
  have hsz : us.toArray.size = ws.toArray.size := by rw [List.size_toArray, List.size_toArray, ← r1.length, ← r2.length]
  show wpAny (model X.prog X.w) X.A (richCompare .NotEq (.ref a) (.ref b)) (EP X pins σ Q) X.xe s
  refine SeqAt.RcNeAt.lists (e := fun _ => true) p1.isList p2.isList hsz (by omega) (fun j h1 h2 => ?_) _ _ _ _ ?_
  · have k := sameIt_run (P := X.prog) (w := X.w) (A := X.A.in1) (s := s) hf r1 r2 j (by simpa using h1) (by simpa using h2)
    simpa using k
  · rw [show ((List.range us.toArray.size).all fun _ => true) = true from List.all_eq_true.mpr fun _ _ => rfl]
    exact ⟨.bl false, H, I, rfl, q⟩
theorem op_eqS (hu : X.A.units + 64 < cLine) : OpR X (compareOp .Eq) (rEqS X.K) := by
  intro pins s σ H x y v u Q I rx ry h
  obtain ⟨a, b, xs, rfl, rfl, ha, hb, hf, q⟩ := h
  cases (show v = Value.ref a from rx)
  cases (show u = Value.ref b from ry)
  obtain ⟨us, r1, p1, _⟩ := I.list ha
  obtain ⟨ws, r2, p2, _⟩ := I.list hb
  have hsz : us.toArray.size = ws.toArray.size := by rw [List.size_toArray, List.size_toArray, ← r1.length, ← r2.length]
  show wpAny (model X.prog X.w) X.A (richCompare .Eq (.ref a) (.ref b)) (EP X pins σ Q) X.xe s
  refine SeqAt.rcP_lists (e := fun _ => true) p1.isList p2.isList hsz (by omega) (fun j h1 h2 => ?_) _ _ ?_
  · have k := sameIt_run (P := X.prog) (w := X.w) (A := X.A.in1) (s := s) hf r1 r2 j (by simpa using h1) (by simpa using h2)
    exact (by simpa using k : SeqAt.EqAt X.A.in1 s us.toArray[j] ws.toArray[j] true).eqP
  · rw [show ((List.range us.toArray.size).all fun _ => true) = true from List.all_eq_true.mpr fun _ _ => rfl]
    exact ⟨.bl true, H, I, rfl, q⟩
end
section
variable {K : Frag} {v : V} {H : Hp} {Q : VK} {p q : Addr}
theorem a_neS1' (hv : SameIt v) (hp : SqL K H p [v]) (hq : SqL K H q [v]) (h : Q (.bl false) H) : rNeS K (.ref p) (.ref q) H Q := ⟨p, q, [v], rfl, rfl, hp, hq, fun x hx => by rw [List.mem_singleton.mp hx]; exact hv, h⟩
theorem a_eqS1' (hv : SameIt v) (hp : SqL K H p [v]) (hq : SqL K H q [v]) (h : Q (.bl true) H) : rEqS K (.ref p) (.ref q) H Q := ⟨p, q, [v], rfl, rfl, hp, hq, fun x hx => by rw [List.mem_singleton.mp hx]; exact hv, h⟩
theorem OutR.sameIt {lo hi : Int} (h : OutR K H v lo hi) : SameIt v := by
  rcases h with h | ⟨i, rfl, _⟩
  · cases h with
    | non => exact .inl rfl
    | bl b => exact .inl rfl
    | str z => exact .inl rfl
    | lst h => exact .inr ⟨_, rfl⟩
    | tup h => exact .inr ⟨_, rfl⟩
    | dK h => exact .inr ⟨_, rfl⟩
  · exact .inl rfl
theorem BadV.sameIt {lo hi : Int} (h : BadV K lo hi v) : SameIt v := (h.out (fun _ => none)).sameIt
end
/-- what was laid by a call that changed an owned thing alone goes into the base -/
theorem Own.base {B H H' : Hp} {Lw : List (Addr × HO)} {row : Addr} {o o' : HO} (O : Own B Lw H) (i : Nat) (hi : Lw[i]? = some (row, o)) (k : ∀ b v, b ≠ row → H b = some v → H' b = some v) (hr : H' row = some o') :
    ∃ B', Same B B' ∧ Own B' (Lw.set i (row, o')) H' ∧ ∀ a u, H a = none → H' a = some u → B' a = some u := by
  have hmem : (row, o) ∈ Lw := List.mem_of_getElem? hi
  refine ⟨fun a => if a ∈ Lw.map (·.1) then none else H' a, fun a u e => ?_, ⟨fun a u e => ?_, fun q hq => ?_, fun q hq => ?_, ?_⟩, fun a u h1 h2 => ?_⟩
  · have n : a ∉ Lw.map (·.1) := fun z => by
      obtain ⟨q, hq, rfl⟩ := List.mem_map.mp z
      rw [O.no q hq] at e; cases e
    show (if a ∈ Lw.map (·.1) then none else H' a) = some u
    rw [if_neg n]
    exact k a u (fun z => n (List.mem_map.mpr ⟨_, hmem, z.symm⟩)) (O.st _ _ e)
  · have e : (if a ∈ Lw.map (·.1) then none else H' a) = some u := e
    split at e
    · cases e
    · exact e
  · rcases mem_set1 O.nd hi hq with rfl | ⟨h1, h2⟩
    · exact hr
    · exact k _ _ h2 (O.ow q h1)
  · have m : q.1 ∈ Lw.map (·.1) := by
      rw [← set_map1 hi (o' := o')]
      exact List.mem_map.mpr ⟨q, hq, rfl⟩
    show (if q.1 ∈ Lw.map (·.1) then none else H' q.1) = none
    rw [if_pos m]
  · rw [set_map1 hi]; exact O.nd
  · have n : a ∉ Lw.map (·.1) := fun z => by
      obtain ⟨q, hq, rfl⟩ := List.mem_map.mp z
      rw [O.ow q hq] at h1; cases h1
    show (if a ∈ Lw.map (·.1) then none else H' a) = some u
    rw [if_neg n]
    exact h2
end R
namespace R
open PySem PySem.Spec PyProof.Rows L2
open PySem.W (Frag)
section
variable {K : Frag} {B H : Hp} {Lw : List (Addr × HO)} {a p q : Addr} {xs : List V} {lo hi : Option Int} {Q : VK} {w : V}
theorem a_neSL (hv : ∀ v ∈ xs, SameIt v) (hp : SqL K H p xs) (hq : SqL K H q xs) (h : Q (.bl false) H) : rNeS K (.ref p) (.ref q) H Q := ⟨p, q, xs, rfl, rfl, hp, hq, hv, h⟩
theorem cutV_to (xs : List V) (k : Nat) : cutV xs none (some (k : Int)) = xs.take k := by
  unfold cutV
  rw [HT.sIx_none, HT.sIx_nat, List.drop_zero, Nat.sub_zero]
  by_cases c : k ≤ xs.length
  · rw [Nat.min_eq_left c]
  · rw [Nat.min_eq_right (by omega), List.take_of_length_le (by omega), List.take_of_length_le (by omega)]
theorem cutV_from (xs : List V) (k : Nat) : cutV xs (some (k : Int)) none = xs.drop k := by
  unfold cutV
  rw [HT.sIx_none, HT.sIx_nat]
  by_cases c : k ≤ xs.length
  · rw [Nat.min_eq_left c]
    exact List.take_of_length_le (by rw [List.length_drop]; omega)
  · rw [Nat.min_eq_right (by omega), List.drop_of_length_le (by omega), List.drop_of_length_le (by omega), List.take_nil]
/-- a tuple's slice; the outcome stands in the base -/
theorem a_slA (O : Own B Lw H) (ha : B a = some (.tup xs)) (c : ∀ r B' H', Same B B' → Own B' Lw H' → B' r = some (.tup (cutV xs lo hi)) → Q (.ref r) H') : rSlA K (.ref a) lo hi H Q := by
  refine ⟨a, xs, rfl, SqT.of (O.st _ _ ha), fun e => ?_, fun _ p hp => ?_⟩
  · have z : cutV xs lo hi = xs := by
      unfold cutV
      rw [e.1, e.2, List.drop_zero, Nat.sub_zero, List.take_length]
    exact c a B H (Same.refl B) O (by rw [z]; exact ha)
  · have O2 := Own.new (o := .tup (cutV xs lo hi)) O hp
    exact c p _ _ O2.fixS O2.fix upd_same
end
/-- w stands at place n, good ones ahead of it -/
def WrongAt (xs : List V) (n : Nat) (w : V) (G : V → Prop) : Prop := xs[n]? = some w ∧ ∀ (i : Nat) (x : V), i < n → xs[i]? = some x → G x
theorem wrongAt_put {ms : List Int} {n : Nat} {w : V} {G : V → Prop} {tl : List V} (hn : n ≤ ms.length) (hg : ∀ m ∈ ms, G (.int m)) : WrongAt ((ms.map V.int).take n ++ [w] ++ tl) n w G := by
  have l : ((ms.map V.int).take n).length = n := by rw [List.length_take, List.length_map]; omega
  refine ⟨?_, fun i x hi hx => ?_⟩
  · rw [List.append_assoc, List.getElem?_append_right (by omega), l, Nat.sub_self]; rfl
  · rw [List.append_assoc, List.getElem?_append_left (by omega), List.getElem?_take, if_pos hi, List.getElem?_map] at hx
    obtain ⟨m, hm, rfl⟩ := Option.map_eq_some_iff.mp hx
    exact hg m (List.mem_of_getElem? hm)
/-- not a tuple -/
inductive NotTup (K : Frag) (H : Hp) : V → Prop
  | non : NotTup K H .non
  | bl (b : Bool) : NotTup K H (.bl b)
  | str (z : Str) : NotTup K H (.str z)
  | int (i : Int) : NotTup K H (.int i)
  | lst {a : Addr} {xs : List V} (h : H a = some (.lst xs)) : NotTup K H (.ref a)
  | dK {a : Addr} {kvs : List (Key × V)} (h : H a = some (.dK kvs)) : NotTup K H (.ref a)
theorem NotTup.same {K : Frag} {B H : Hp} {v : V} (s : Same B H) (h : NotTup K B v) : NotTup K H v := by
  cases h with
  | non => exact .non
  | bl b => exact .bl b
  | str z => exact .str z
  | int i => exact .int i
  | lst h => exact .lst (s _ _ h)
  | dK h => exact .dK (s _ _ h)
section
variable {K : Frag} {H : Hp} {v : V} {Q : VK} {p : Addr} {xs : List V}
theorem a_isiNT (h : NotTup K H v) (q : Q (.bl false) H) : rIsi K [v, .ty "tuple"] H Q := by
  cases h with
  | non => exact ⟨_, _, .type "NoneType", .type "tuple", false, rfl, .ty _, .base .non, kit_ty (by decide +kernel), q⟩
  | bl b => exact ⟨_, _, .type "bool", .type "tuple", false, rfl, .ty _, .base (.bl b), kit_ty (by decide +kernel), q⟩
  | str z => exact ⟨_, _, .type "str", .type "tuple", false, rfl, .ty _, .base (.str z), kit_ty (by decide +kernel), q⟩
  | int i => exact ⟨_, _, .type "int", .type "tuple", false, rfl, .ty _, .base (.int i), kit_ty (by decide +kernel), q⟩
  | lst h => exact ⟨_, _, .type "list", .type "tuple", false, rfl, .ty _, .base (.lst h), kit_ty (by decide +kernel), q⟩
  | dK h => exact ⟨_, _, .type "dict", .type "tuple", false, rfl, .ty _, .base (.dK h), kit_ty (by decide +kernel), q⟩
theorem a_isiT1 (h : H p = some (.tup xs)) (q : Q (.bl true) H) : rIsi K [.ref p, .ty "tuple"] H Q := ⟨_, _, .type "tuple", .type "tuple", true, rfl, .ty _, .base (.tup h), kit_ty (by decide +kernel), q⟩
end
/-- no tuple of so many things -/
def NoTup (K : Frag) (H : Hp) (v : V) (lo hi : Nat) : Prop := NotTup K H v ∨ ∃ p xs, v = .ref p ∧ H p = some (.tup xs) ∧ ¬ (lo ≤ xs.length ∧ xs.length ≤ hi)
theorem NoTup.same {K : Frag} {B H : Hp} {v : V} {lo hi : Nat} (s : Same B H) (h : NoTup K B v lo hi) : NoTup K H v lo hi := by
  rcases h with h | ⟨p, xs, e, h, n⟩
  · exact .inl (h.same s)
  · exact .inr ⟨p, xs, e, s _ _ h, n⟩
end R

/-! ## rows of things: lists or tuples of any things -/
namespace R
open PySem PySem.Spec PyProof.Rows L2
open PySem.W (Frag)
/-- no list, no tuple -/
inductive NotSeq (K : Frag) (H : Hp) : V → Prop
  | non : NotSeq K H .non
  | bl (b : Bool) : NotSeq K H (.bl b)
  | str (z : Str) : NotSeq K H (.str z)
  | int (i : Int) : NotSeq K H (.int i)
  | dK {a : Addr} {kvs : List (Key × V)} (h : H a = some (.dK kvs)) : NotSeq K H (.ref a)
  | ins {a C dx : Addr} {fs : List (Str × V)} (h : H a = some (.ins C dx fs)) (I : C8.InsC K C) (hc : ((PySem.W.clsIn K C).isSome && PySem.W.typeIn K (.ref C) == some (.type "type")) = true) (h1 : PySem.W.subIn K (.ref C) (.type "list") = some false) (h2 : PySem.W.subIn K (.ref C) (.type "tuple") = some false) : NotSeq K H (.ref a)
theorem NotSeq.same {K : Frag} {B H : Hp} {v : V} (s : Same B H) (h : NotSeq K B v) : NotSeq K H v := by
  cases h with
  | non => exact .non
  | bl b => exact .bl b
  | str z => exact .str z
  | int i => exact .int i
  | dK h => exact .dK (s _ _ h)
  | ins h I hc h1 h2 => exact .ins (s _ _ h) I hc h1 h2
theorem kit_sub {K : Frag} {C : Addr} {t : String} (h : PySem.W.subIn K (.ref C) (.type t) = some false) (hm : PySem.W.kitMeta t = true := by decide +kernel) : PySem.W.kitOne K (.ref C) (.type t) = some false := by
  show (if (Value.ref C == Value.type t) = true then some true else PySem.W.kitCls K (.ref C) (.type t)) = some false
  rw [if_neg (by intro y; rw [beq_iff_eq] at y; cases y)]
  show (if PySem.W.kitMeta t = true then PySem.W.subIn K (.ref C) (.type t) else none) = some false
  rw [if_pos hm]; exact h
section
variable {K : Frag} {H : Hp} {v : V} {Q : VK} {tp : Addr}
theorem a_isiN2 (h : NotSeq K H v) (ht : H tp = some (.tup [.ty "list", .ty "tuple"])) (q : Q (.bl false) H) : rIsiT K [v, .ref tp] H Q := by
  cases h with
  | non => exact ⟨_, tp, _, .type "NoneType", [.type "list", .type "tuple"], false, rfl, ht, .cons (.ty _) (.cons (.ty _) .nil), .base .non, kitAny_cons (b := false) (kit_ty (by decide +kernel)) (fun _ => kitAny_cons (b := false) (kit_ty (by decide +kernel)) (fun _ => rfl) (fun z => by cases z)) (fun z => by cases z), q⟩
  | bl b => exact ⟨_, tp, _, .type "bool", [.type "list", .type "tuple"], false, rfl, ht, .cons (.ty _) (.cons (.ty _) .nil), .base (.bl b), kitAny_cons (b := false) (kit_ty (by decide +kernel)) (fun _ => kitAny_cons (b := false) (kit_ty (by decide +kernel)) (fun _ => rfl) (fun z => by cases z)) (fun z => by cases z), q⟩
  | str z => exact ⟨_, tp, _, .type "str", [.type "list", .type "tuple"], false, rfl, ht, .cons (.ty _) (.cons (.ty _) .nil), .base (.str z), kitAny_cons (b := false) (kit_ty (by decide +kernel)) (fun _ => kitAny_cons (b := false) (kit_ty (by decide +kernel)) (fun _ => rfl) (fun z => by cases z)) (fun z => by cases z), q⟩
  | int i => exact ⟨_, tp, _, .type "int", [.type "list", .type "tuple"], false, rfl, ht, .cons (.ty _) (.cons (.ty _) .nil), .base (.int i), kitAny_cons (b := false) (kit_ty (by decide +kernel)) (fun _ => kitAny_cons (b := false) (kit_ty (by decide +kernel)) (fun _ => rfl) (fun z => by cases z)) (fun z => by cases z), q⟩
  | dK h => exact ⟨_, tp, _, .type "dict", [.type "list", .type "tuple"], false, rfl, ht, .cons (.ty _) (.cons (.ty _) .nil), .base (.dK h), kitAny_cons (b := false) (kit_ty (by decide +kernel)) (fun _ => kitAny_cons (b := false) (kit_ty (by decide +kernel)) (fun _ => rfl) (fun z => by cases z)) (fun z => by cases z), q⟩
  | @ins a C dx fs h I hc h1 h2 => exact ⟨_, tp, _, .ref C, [.type "list", .type "tuple"], false, rfl, ht, .cons (.ty _) (.cons (.ty _) .nil), .base (.ins h I.cl I.ha I.hn I.htk I.hm), kitAny_cons (b := false) (kit_sub h1) (fun _ => kitAny_cons (b := false) (kit_sub h2) (fun _ => rfl) (fun z => by cases z)) (fun z => by cases z), q⟩
end
/-- no row of lo to hi things -/
def NoRow (K : Frag) (H : Hp) (v : V) (lo hi : Nat) : Prop := NotSeq K H v ∨ ∃ p xs, v = .ref p ∧ EAt H p xs ∧ ¬ (lo ≤ xs.length ∧ xs.length ≤ hi)
theorem NoRow.same {K : Frag} {B H : Hp} {v : V} {lo hi : Nat} (s : Same B H) (h : NoRow K B v lo hi) : NoRow K H v lo hi := by
  rcases h with h | ⟨p, xs, e, h, n⟩
  · exact .inl (h.same s)
  · exact .inr ⟨p, xs, e, h.up s, n⟩
/-- an int of the stretch -/
def frB (lo hi : Int) : V → Bool
  | .int i => decide (lo ≤ i) && decide (i ≤ hi)
  | _ => false
theorem bl_snoc {f : V → Bool} {ys : List V} {i : Nat} {y : V} (h : ys[i]? = some y) : (ys.take (i + 1)).map f = (ys.take i).map f ++ [f y] := by
  rw [List.take_add_one, h, List.map_append]; rfl
theorem WrongAt.mono {xs : List V} {n : Nat} {w : V} {G G' : V → Prop} (h : WrongAt xs n w G) (g : ∀ x, G x → G' x) : WrongAt xs n w G' := ⟨h.1, fun i x hi hx => g x (h.2 i x hi hx)⟩
theorem wrongAt_row {xs tl : List V} {n : Nat} {w : V} {G : V → Prop} (hn : n ≤ xs.length) (hg : ∀ x ∈ xs, G x) : WrongAt (xs.take n ++ [w] ++ tl) n w G := by
  have l : (xs.take n).length = n := by rw [List.length_take]; omega
  refine ⟨?_, fun i x hi hx => ?_⟩
  · rw [List.append_assoc, List.getElem?_append_right (by omega), l, Nat.sub_self]; rfl
  · rw [List.append_assoc, List.getElem?_append_left (by omega), List.getElem?_take, if_pos hi] at hx
    exact hg x (List.mem_of_getElem? hx)
end R
namespace R
open PySem PySem.Spec PyProof.Rows L2
open PySem.W (Frag)
section
variable {K : Frag} {B H : Hp} {Lw : List (Addr × HO)} {a b : Addr} {xs ys : List V} {lo hi : Option Int} {Q : VK} {k : Int}
theorem a_slLV (O : Own B Lw H) (hs : SqL K H a xs) (q : ∀ p H', H p = none → Own B ((p, .lst (cutV xs lo hi)) :: Lw) H' → Q (.ref p) H') : rSlL K (.ref a) lo hi H Q :=
  ⟨a, xs, rfl, hs, fun p hp => q p _ hp (O.new hp)⟩
theorem a_catL (O : Own B Lw H) (ha : H a = some (.lst xs)) (hb : H b = some (.lst ys)) (hz : xs.length + ys.length ≤ 1000000) (q : ∀ p H', H p = none → Own B ((p, .lst (xs ++ ys)) :: Lw) H' → Q (.ref p) H') : rCat (.ref a) (.ref b) H Q :=
  ⟨a, b, xs, ys, rfl, rfl, ha, hb, Nat.le_trans hz (by decide), fun p hp => q p _ hp (O.new hp)⟩
theorem a_repL (O : Own B Lw H) (ha : H a = some (.lst xs)) (hk : 0 ≤ k ∧ k ≤ 1000) (hz : xs.length ≤ 1000) (q : ∀ p H', H p = none → Own B ((p, .lst (List.replicate k.toNat xs).flatten) :: Lw) H' → Q (.ref p) H') : rRep (.ref a) (.int k) H Q := by
  refine ⟨a, k, xs, rfl, rfl, ha, by omega, by omega, ?_, fun p hp => q p _ hp (O.new hp)⟩
  have h1 : xs.length * k.toNat ≤ 1000 * 1000 := Nat.mul_le_mul hz (by omega)
  exact Nat.le_trans h1 (by decide)
end
end R
namespace R
open PySem PySem.Spec PyProof.Rows L2
open PySem.W (Frag)
theorem Own.fixAll {H : Hp} {row : Addr} {o : HO} : ∀ {Lw : List (Addr × HO)} {B : Hp}, Own B (Lw ++ [(row, o)]) H → ∃ B', Same B B' ∧ Own B' [(row, o)] H ∧ ∀ q ∈ Lw, B' q.1 = some q.2
  | [], B, O => ⟨B, Same.refl B, O, fun _ h => by simp at h⟩
  | (p, u) :: Lw, B, O => by
    have O1 : Own B ((p, u) :: (Lw ++ [(row, o)])) H := O
    obtain ⟨B', s, O', h⟩ := Own.fixAll (O1.fix)
    refine ⟨B', O1.fixS.trans s, O', fun q hq => ?_⟩
    rcases List.mem_cons.mp hq with rfl | hq
    · exact s _ _ upd_same
    · exact h q hq
theorem Own.sameDel {B H : Hp} {Lw : List (Addr × HO)} {row : Addr} {o : HO} (O : Own B Lw H) (i : Nat) (h : Lw[i]? = some (row, o)) : Same B (del1 H row) := fun a v e => by
  have n := O.gone i h
  rw [del1_ne (fun z => by rw [z, n] at e; cases e)]
  exact O.st _ _ e
end R

/-! ## x == y by an own __eq__, properties -/
namespace R
open PySem PySem.Spec PyProof.Rows L2
open PySem.W (Frag)
/-- what may stand on the right of == beside an instance of the class at C -/
def EqTy (K : Frag) (H : Hp) (C : Addr) (y : V) : Prop := ∃ b, y = .ref b ∧ ((∃ dx fs, H b = some (.ins C dx fs)) ∨ ∃ xs, H b = some (.tup xs))
def rOwnE (K : Frag) (C : Addr) (sp : Sp) : R2 := fun x y H Q => ∃ a dx fs, x = .ref a ∧ H a = some (.ins C dx fs) ∧ EqTy K H C y ∧ sp [x, y] H (fun v H' => (∃ b, v = .bl b) ∧ Q v H') (fun _ _ _ => False)
theorem sub_no {K : Frag} {C : Addr} {t : String} (hm : (PySem.fastBuiltinMro t).map (·.all isTy) = some true) : PySem.W.notFirst K C (.type t) = true := by
  obtain ⟨l, h1, h2⟩ := Option.map_eq_some_iff.mp hm
  have z : l.contains (Value.ref C) = false := by
    cases e : l.contains (Value.ref C) with
    | false => rfl
    | true =>
      have m : Value.ref C ∈ l := by simpa using e
      have y := List.all_eq_true.mp h2 _ m
      cases y
  have e : PySem.W.subIn K (.type t) (.ref C) = some false := by
    show (PySem.fastBuiltinMro t).map (·.contains (.ref C)) = some false
    rw [h1]
    show some (l.contains (Value.ref C)) = some false
    rw [z]
  unfold PySem.W.notFirst
  rw [e]
  simp
section
variable {X : Cx} {n : Nat} {C f : Addr} {fd : FuncData} {ps : List Str} {sp : Sp}
theorem op_eqOwn (F : FnOk X.prog X.w X.K X.mg X.base CX0 n f fd ps sp) (hr : Room n X.A) (hs : PySem.W.findIn X.K (.ref C) "__eq__" = some (some (.ref f))) (hf : PySem.W.isFn X.K (.ref f) = true) (hb : Binds X.K fd ps []) : OpR X (compareOp .Eq) (rOwnE X.K C sp) := by
  intro pins s σ H x y u v Q I rx ry h
  obtain ⟨a, dx, fs, rfl, ha, ⟨b, rfl, hy⟩, hsp⟩ := h
  cases rx
  cases ry
  show wpAny (model X.prog X.w) X.A (richCompare .Eq (.ref a) (.ref b)) (EP X pins σ Q) X.xe s
  obtain ⟨mA, J, _⟩ := ins_get I.hok ha
  obtain ⟨od, J, _⟩ := J.look
  obtain ⟨m, hF⟩ := I.fr
  have fin : wpAny (model X.prog X.w) X.A (call (.ref f) [.ref a, .ref b]) (PySem.W.CmpBack (EP X pins σ Q)) X.xe s := by
    have hl := F.len _ _ _ _ hsp
    have r2 : Vals [V.ref a, V.ref b] [Value.ref a, Value.ref b] := .cons rfl (.cons rfl .nil)
    refine wpAny_call (codeAny_mono (F.run X.A X.stack s H ⟨[.ref a, .ref b], []⟩ [.ref a, .ref b] [.ref a, .ref b] _ _ hr I.env0 (by
      have := hb s [.ref a, .ref b] I.kIn (by simpa using hl)
      simpa using this) r2 hsp) fun r s' hq => ?_)
    cases r with
    | error e => exact hq.elim
    | ok fl =>
      cases fl with
      | ret w =>
        obtain ⟨z, H', I', rz, ⟨bb, ez⟩, q⟩ := I.after hq
        subst ez
        cases rz
        exact ⟨.bl bb, H', I', rfl, q⟩
      | next => exact False.elim hq
      | brk => exact False.elim hq
      | cont => exact False.elim hq
  rcases hy with ⟨dy, gs, hy⟩ | ⟨xs, hy⟩
  · obtain ⟨mB, J', _⟩ := ins_get I.hok hy
    obtain ⟨od', J', _⟩ := J'.look
    exact PySem.W.cmp_K (op := .Eq) (tb := .ref C) hr.units0 hF I.ok.mod.kin J J'.type (by simp [PySem.W.notFirst]) hs hf fin
  · obtain ⟨_, _, _, o, h1, h2, _⟩ := (show ObjOk X.prog X.w H s.heap b (.tup xs) from I.hok b _ hy)
    exact PySem.W.cmp_K (op := .Eq) (tb := .type "tuple") hr.units0 hF I.ok.mod.kin J (fun A Q E s k q => wpAny_typeOf_ref (k _ _ h1) (by rw [h2]; exact q)) (sub_no (by decide +kernel)) hs hf fin
end
section
variable {K : Frag} {C : Addr} {sp : Sp} {dvs : List V} {E : XK} {ta : TE} {σ : L2.St} {H : Hp} {Q : VK}
theorem a_prop (h : ta σ H fun x H1 => ∃ a dx fs, x = .ref a ∧ H1 a = some (.ins C dx fs) ∧ sp (.ref a :: dvs) H1 Q E) : tProp C sp dvs E ta σ H Q := h
end
end R

/-! ## texts: text * n, words between spaces -/
namespace R
open PySem PySem.Spec PyProof.Rows L2
def rMulS : R2 := fun x y H Q => ∃ (a : Str) (n : Int), x = .str a ∧ y = .int n ∧ MulOk a n ∧ Q (.str (Txt.mul a n)) H
theorem op_mulS {X : Cx} : OpR X (binaryOp .Mult) rMulS := by
  intro pins s σ H x y v u Q I rx ry h
  obtain ⟨a, n, rfl, rfl, ok, q⟩ := h
  obtain ⟨t, rfl⟩ := rx
  obtain ⟨t', rfl⟩ := ry
  exact SB.mul ok fun t2 k => ⟨.str (Txt.mul a n), H, I.tok _, ⟨_, rfl⟩, q⟩
/-- cut at each 32 -/
def cut32 : List Nat → List (List Nat)
  | [] => [[]]
  | c :: l => if c = 32 then [] :: cut32 l else match cut32 l with
    | [] => [[c]]
    | w :: r => (c :: w) :: r
theorem cut_ne : ∀ l : List Nat, cut32 l ≠ []
  | [], e => by cases e
  | c :: l, e => by
    unfold cut32 at e
    split at e
    · cases e
    · cases h : cut32 l with
      | nil => rw [h] at e; cases e
      | cons w r => rw [h] at e; cases e
theorem cut_free : ∀ {w : List Nat}, 32 ∉ w → cut32 w = [w]
  | [], _ => rfl
  | c :: w, h => by
    have n : c ≠ 32 := fun z => h (by rw [z]; exact List.mem_cons_self)
    unfold cut32
    rw [if_neg n, cut_free fun z => h (List.mem_cons_of_mem _ z)]
theorem cut_app : ∀ (l m : List Nat), cut32 (l ++ 32 :: m) = cut32 l ++ cut32 m
  | [], m => by
    show cut32 (32 :: m) = [[]] ++ cut32 m
    rw [cut32, if_pos rfl]; rfl
  | c :: l, m => by
    show cut32 (c :: (l ++ 32 :: m)) = cut32 (c :: l) ++ cut32 m
    rw [cut32, cut32, cut_app l m]
    split
    · rfl
    · cases h : cut32 l with
      | nil => exact absurd h (cut_ne l)
      | cons w r => rfl
def jn32 : List (List Nat) → List Nat
  | [] => []
  | [p] => p
  | p :: q :: r => p ++ 32 :: jn32 (q :: r)
theorem cut_jn : ∀ {ps : List (List Nat)}, ps ≠ [] → (∀ p ∈ ps, 32 ∉ p) → cut32 (jn32 ps) = ps
  | [], h, _ => absurd rfl h
  | [p], _, h => cut_free (h p List.mem_cons_self)
  | p :: q :: r, _, h => by
    show cut32 (p ++ 32 :: jn32 (q :: r)) = _
    rw [cut_app, cut_free (h p List.mem_cons_self), cut_jn (by simp) fun x hx => h x (List.mem_cons_of_mem _ hx)]
    rfl
/-- the words -/
def wds (l : List Nat) : List (List Nat) := (cut32 l).filter fun w => !w.isEmpty
theorem wds_app (l m : List Nat) : wds (l ++ 32 :: m) = wds l ++ wds m := by unfold wds; rw [cut_app, List.filter_append]
theorem wds_free {w : List Nat} (h : 32 ∉ w) (n : w ≠ []) : wds w = [w] := by
  unfold wds
  rw [cut_free h]
  cases w with
  | nil => exact absurd rfl n
  | cons c w => rfl
theorem wds_nil : wds [] = [] := rfl
theorem wds_sp (m : List Nat) : wds (32 :: m) = wds m := wds_app [] m
theorem wds_sps : ∀ (k : Nat) (m : List Nat), wds (List.replicate k 32 ++ m) = wds m
  | 0, _ => rfl
  | k + 1, m => by rw [List.replicate_succ]; show wds (32 :: (List.replicate k 32 ++ m)) = _; rw [wds_sp, wds_sps k m]
theorem wds_jn : ∀ {ws : List (List Nat)}, (∀ w ∈ ws, 32 ∉ w ∧ w ≠ []) → wds (jn32 ws) = ws
  | [], _ => rfl
  | [w], h => wds_free (h w List.mem_cons_self).1 (h w List.mem_cons_self).2
  | p :: q :: r, h => by
    show wds (p ++ 32 :: jn32 (q :: r)) = _
    rw [wds_app, wds_free (h p List.mem_cons_self).1 (h p List.mem_cons_self).2, wds_jn fun x hx => h x (List.mem_cons_of_mem _ hx)]
    rfl
abbrev sp1 : Str := " "
theorem sp1_eq : sp1 = ⟨#[32]⟩ := by decide +kernel
def cp (x : Str) : List Nat := x.cps.toList
theorem cp_inj {x y : Str} (h : cp x = cp y) : x = y := by
  obtain ⟨⟨a⟩⟩ := x
  obtain ⟨⟨b⟩⟩ := y
  have h : a = b := h
  rw [h]
theorem cp_app (x y : Str) : cp (x ++ y) = cp x ++ cp y := by
  show (x.cps ++ y.cps).toList = _
  rw [Array.toList_append]; rfl
theorem cp_join : ∀ ws : List Str, cp (Str.join ⟨#[32]⟩ ws) = jn32 (ws.map cp)
  | [] => rfl
  | [_] => rfl
  | p :: q :: r => by
    show cp (p ++ (⟨#[32]⟩ : Str) ++ Str.join ⟨#[32]⟩ (q :: r)) = cp p ++ 32 :: jn32 ((q :: r).map cp)
    rw [cp_app, cp_app, cp_join (q :: r), List.append_assoc]; rfl
theorem split_some (x : Str) : Txt.split x ⟨#[32]⟩ ≠ [] := by
  unfold Txt.split
  split
  · simp
  · split
    · simp
    · rw [StrLaws.partsBetween_eq]
      obtain ⟨p, r, e⟩ := StrLaws.partsFrom_ne x (⟨#[32]⟩ : Str).length 0 (Builtin.Str.occurrences x ⟨#[32]⟩ 0 x.length (x.length + 1))
      rw [e]; simp
theorem split_cut (x : Str) : (Txt.split x ⟨#[32]⟩).map cp = cut32 (cp x) := by
  have e := StrLaws.join_split x ⟨#[32]⟩
  have e2 := cp_join (Txt.split x ⟨#[32]⟩)
  rw [e] at e2
  rw [e2]
  refine (cut_jn (fun z => split_some x (List.map_eq_nil_iff.mp z)) fun p hp => ?_).symm
  obtain ⟨y, hy, rfl⟩ := List.mem_map.mp hp
  exact StrLaws.split_free x 32 y hy
/-- the words of a text, as a text's split and a filter tell them -/
def wdsS (x : Str) : List Str := (Txt.split x sp1).filter fun y => !decide (V.str y = V.str "")
theorem wdsS_of {x : Str} {ws : List Str} (h : wds (cp x) = ws.map cp) : wdsS x = ws := by
  unfold wdsS
  rw [sp1_eq]
  have emp : cp "" = [] := by decide +kernel
  have key : ∀ l : List Str, (l.filter fun y => !decide (V.str y = V.str "")).map cp = (l.map cp).filter fun w => !w.isEmpty := fun l => by
    induction l with
    | nil => rfl
    | cons y l ih =>
      rw [List.filter_cons, List.map_cons, List.filter_cons]
      by_cases c : y = ""
      · subst c
        rw [decide_eq_true rfl, emp]
        exact ih
      · have c2 : cp y ≠ [] := fun z => c (cp_inj (z.trans emp.symm))
        rw [decide_eq_false (fun z => c (by injection z))]
        have c3 : (!(cp y).isEmpty) = true := by
          cases q : cp y with
          | nil => exact absurd q c2
          | cons a b => rfl
        rw [c3]
        show cp y :: List.map cp (l.filter _) = _
        rw [ih]; rfl
  have k2 := key (Txt.split x ⟨#[32]⟩)
  rw [split_cut] at k2
  have k3 := k2.trans h
  have inj : ∀ (a b : List Str), a.map cp = b.map cp → a = b := fun a => by
    induction a with
    | nil =>
      intro b e
      cases b with
      | nil => rfl
      | cons y b => cases e
    | cons x a ih =>
      intro b e
      cases b with
      | nil => cases e
      | cons y b =>
        rw [List.map_cons, List.map_cons] at e
        injection e with e1 e2
        rw [cp_inj e1, ih b e2]
  exact inj _ _ k3
end R

/-! ## the words of tricks' texts -/
namespace R
open PySem PySem.Spec PyProof.Rows L2
open PySem.W (Frag)
/-- a number as a word -/
def numS (n : Int) : Str := toString n
structure WordOk (z : Str) : Prop where
  free : 32 ∉ cp z
  some : cp z ≠ []
  len : z.length ≤ 8
  ok : (PyData.str z).canLay0 = true
def wordB (z : Str) : Bool := !(cp z).contains 32 && !(cp z).isEmpty && decide (z.length ≤ 8) && (PyData.str z).canLay0
theorem word_by' {z : Str} (h : wordB z = true) : WordOk z := by
  unfold wordB at h
  simp only [Bool.and_eq_true, Bool.not_eq_true', decide_eq_true_eq, List.isEmpty_eq_false_iff] at h
  obtain ⟨⟨⟨h1, h2⟩, h3⟩, h4⟩ := h
  refine ⟨fun z => ?_, h2, h3, h4⟩
  rw [List.contains_iff_mem.mpr z] at h1
  cases h1
def numB (n : Int) : Bool := wordB (numS n) && decide (intText? (numS n) = some n)
theorem nums_all : ((List.range 201).all fun k => numB ((k : Int) - 100)) = true := by decide +kernel
theorem num_all {n : Int} (h1 : -100 ≤ n) (h2 : n ≤ 100) : WordOk (numS n) ∧ intText? (numS n) = some n := by
  have q := List.all_eq_true.mp nums_all (n + 100).toNat (List.mem_range.mpr (by omega))
  rw [show (((n + 100).toNat : Nat) : Int) - 100 = n by omega] at q
  unfold numB at q
  simp only [Bool.and_eq_true, decide_eq_true_eq] at q
  exact ⟨word_by' q.1, q.2⟩
theorem numS_inj {m n : Int} (h1 : -100 ≤ m) (h2 : m ≤ 100) (h3 : -100 ≤ n) (h4 : n ≤ 100) (e : numS m = numS n) : m = n := by
  have a := (num_all h1 h2).2
  rw [e, (num_all h3 h4).2] at a
  exact (Option.some.inj a).symm
theorem log_small {n : Int} (h1 : -100 ≤ n) (h2 : n ≤ 100) : n.natAbs.log2 < 1920 := Nat.lt_of_le_of_lt (Nat.log2_le_self _) (by omega)
def numsL (lo : Int) (n : Nat) : List Str := (List.range n).map fun (i : Nat) => numS (lo + (i : Int))
theorem mem_nums {lo : Int} {n : Nat} {z : Str} : z ∈ numsL lo n ↔ ∃ m : Int, lo ≤ m ∧ m < lo + n ∧ z = numS m := by
  unfold numsL
  rw [List.mem_map]
  constructor
  · rintro ⟨i, hi, rfl⟩
    rw [List.mem_range] at hi
    exact ⟨_, by omega, by omega, rfl⟩
  · rintro ⟨m, h1, h2, rfl⟩
    exact ⟨(m - lo).toNat, List.mem_range.mpr (by omega), by rw [show lo + (((m - lo).toNat : Nat) : Int) = m by omega]⟩
/-- what may stand at each place -/
def lots : List (List Str) := [["base"], numsL 2 15, ["take"], ["1", "2"], ["times"], numsL (-100) 201]
def wrongAt1 (ws : List Str) (k : Nat) : Bool := decide (ws.length ≤ k) || !decide (ws.getD k "" ∈ lots.getD k [])
def wrongW (ws : List Str) : Option Nat :=
  if wrongAt1 ws 0 then some 1 else if wrongAt1 ws 1 then some 2 else if wrongAt1 ws 2 then some 3 else if wrongAt1 ws 3 then some 4 else if wrongAt1 ws 4 then some 5 else if wrongAt1 ws 5 then some 6 else if 6 < ws.length then some 7 else none
theorem one_two : (["1", "2"] : List Str) = numsL 1 2 := by decide +kernel
theorem getD_of {l : List Str} {k : Nat} {z d : Str} (e : l[k]? = some z) : l.getD k d = z := by rw [List.getD_eq_getElem?_getD, e]; rfl
theorem right_at {ws : List Str} {k : Nat} (h : wrongAt1 ws k = false) : ∃ z, ws[k]? = some z ∧ z ∈ lots.getD k [] := by
  unfold wrongAt1 at h
  simp only [Bool.or_eq_false_iff, decide_eq_false_iff_not, Bool.not_eq_false', decide_eq_true_eq] at h
  have l : k < ws.length := by omega
  have e : ws[k]? = some ws[k] := List.getElem?_eq_getElem l
  refine ⟨_, e, ?_⟩
  have q := h.2
  rw [getD_of e] at q
  exact q
theorem wrong_at {ws : List Str} {k : Nat} (h : wrongAt1 ws k = true) : ∀ z, ws[k]? = some z → z ∉ lots.getD k [] := fun z e m => by
  unfold wrongAt1 at h
  have l := (List.getElem?_eq_some_iff.mp e).1
  rw [getD_of e, decide_eq_false (by omega), decide_eq_true m] at h
  cases h
/-- the words of a trick's text -/
def goodWs (b k t : Int) : List Str := ["base", numS b, "take", numS k, "times", numS t]
theorem good_of {ws : List Str} (h : wrongW ws = none) : ∃ b k t : Int, (2 ≤ b ∧ b ≤ 16) ∧ (1 ≤ k ∧ k ≤ 2) ∧ (-100 ≤ t ∧ t ≤ 100) ∧ ws = goodWs b k t := by
  unfold wrongW at h
  repeat' (split at h; · cases h)
  rename_i h0 h1 h2 h3 h4 h5 h6
  obtain ⟨z0, e0, m0⟩ := right_at (Bool.eq_false_iff.mpr h0)
  obtain ⟨z1, e1, m1⟩ := right_at (Bool.eq_false_iff.mpr h1)
  obtain ⟨z2, e2, m2⟩ := right_at (Bool.eq_false_iff.mpr h2)
  obtain ⟨z3, e3, m3⟩ := right_at (Bool.eq_false_iff.mpr h3)
  obtain ⟨z4, e4, m4⟩ := right_at (Bool.eq_false_iff.mpr h4)
  obtain ⟨z5, e5, m5⟩ := right_at (Bool.eq_false_iff.mpr h5)
  have m0 : z0 ∈ (["base"] : List Str) := m0
  have m1 : z1 ∈ numsL 2 15 := m1
  have m2 : z2 ∈ (["take"] : List Str) := m2
  have m3 : z3 ∈ (["1", "2"] : List Str) := m3
  have m4 : z4 ∈ (["times"] : List Str) := m4
  have m5 : z5 ∈ numsL (-100) 201 := m5
  rw [one_two] at m3
  obtain ⟨b, hb1, hb2, rfl⟩ := mem_nums.mp m1
  obtain ⟨k, hk1, hk2, rfl⟩ := mem_nums.mp m3
  obtain ⟨t, ht1, ht2, rfl⟩ := mem_nums.mp m5
  rw [List.mem_singleton] at m0 m2 m4
  subst m0 m2 m4
  refine ⟨b, k, t, by omega, by omega, by omega, ?_⟩
  have l5 := (List.getElem?_eq_some_iff.mp e5).1
  match ws, l5, h6, e0, e1, e2, e3, e4, e5 with
  | [a0, a1, a2, a3, a4, a5], _, _, e0, e1, e2, e3, e4, e5 =>
    cases e0; cases e1; cases e2; cases e3; cases e4; cases e5
    rfl
  | _ :: _ :: _ :: _ :: _ :: _ :: _ :: _, _, h6, _, _, _, _, _, _ => simp at h6
theorem good_right {b k t : Int} (hb : 2 ≤ b ∧ b ≤ 16) (hk : 1 ≤ k ∧ k ≤ 2) (ht : -100 ≤ t ∧ t ≤ 100) : wrongW (goodWs b k t) = none := by
  have r : ∀ (i : Nat) (z : Str), (goodWs b k t)[i]? = some z → z ∈ lots.getD i [] → wrongAt1 (goodWs b k t) i = false := fun i z e m => by
    unfold wrongAt1
    have l := (List.getElem?_eq_some_iff.mp e).1
    rw [getD_of e, decide_eq_false (by omega), decide_eq_true m]
    rfl
  have r0 := r 0 "base" rfl (by show _ ∈ (["base"] : List Str); exact List.mem_cons_self)
  have r1 := r 1 _ rfl (by show _ ∈ numsL 2 15; exact mem_nums.mpr ⟨b, hb.1, by omega, rfl⟩)
  have r2 := r 2 "take" rfl (by show _ ∈ (["take"] : List Str); exact List.mem_cons_self)
  have r3 := r 3 _ rfl (by show _ ∈ (["1", "2"] : List Str); rw [one_two]; exact mem_nums.mpr ⟨k, hk.1, by omega, rfl⟩)
  have r4 := r 4 "times" rfl (by show _ ∈ (["times"] : List Str); exact List.mem_cons_self)
  have r5 := r 5 _ rfl (by show _ ∈ numsL (-100) 201; exact mem_nums.mpr ⟨t, ht.1, by omega, rfl⟩)
  unfold wrongW
  rw [r0, r1, r2, r3, r4, r5]
  rfl
theorem good_words {b k t : Int} (hb : 2 ≤ b ∧ b ≤ 16) (hk : 1 ≤ k ∧ k ≤ 2) (ht : -100 ≤ t ∧ t ≤ 100) : ∀ w ∈ goodWs b k t, WordOk w := by
  have c : ∀ w ∈ (["base", "take", "times"] : List Str), WordOk w := fun w hw => word_by' (List.all_eq_true.mp (show ((["base", "take", "times"] : List Str).all wordB) = true by decide +kernel) w hw)
  intro w hw
  unfold goodWs at hw
  simp only [List.mem_cons, List.not_mem_nil, or_false] at hw
  rcases hw with rfl | rfl | rfl | rfl | rfl | rfl
  · exact c _ (by simp)
  · exact (num_all (by omega) (by omega)).1
  · exact c _ (by simp)
  · exact (num_all (by omega) (by omega)).1
  · exact c _ (by simp)
  · exact (num_all (by omega) (by omega)).1
/-- z in a list of texts -/
theorem inV_str {z : Str} : ∀ l : List Str, inV (.str z) (l.map V.str) = decide (z ∈ l)
  | [] => rfl
  | y :: l => by
    show (eqV (.str y) (.str z) || inV (.str z) (l.map V.str)) = _
    rw [inV_str l]
    have e : eqV (.str y) (.str z) = decide (y = z) := by
      unfold eqV
      first | rfl | (rw [Bool.eq_iff_iff]; simp) | simp
    rw [e, Bool.eq_iff_iff, Bool.or_eq_true, decide_eq_true_iff, decide_eq_true_iff, decide_eq_true_iff, List.mem_cons]
    constructor
    · rintro (h | h)
      · exact .inl h.symm
      · exact .inr h
    · rintro (h | h)
      · exact .inl h.symm
      · exact .inr h
theorem flat_strs : ∀ l : List Str, (l.map V.str).all flatV = true
  | [] => rfl
  | _ :: l => flat_strs l
theorem a_notInS {K : Frag} {H : Hp} {p : Addr} {z : Str} {l : List Str} {Q : VK} (hp : SqL K H p (l.map V.str)) (h : Q (.bl (!decide (z ∈ l))) H) : rIn K true (.str z) (.ref p) H Q :=
  ⟨p, l.map V.str, rfl, .inl hp, rfl, flat_strs l, by rw [inV_str]; exact h⟩
theorem dp_strs {K : Frag} {H : Hp} : ∀ l : List Str, DpAll K H (l.map V.str) (l.map PyData.str)
  | [] => .nil
  | z :: l => .cons (.str z) (dp_strs l)
theorem can_strs : ∀ {l : List Str}, (∀ z ∈ l, (PyData.str z).canLay0 = true) → (PyData.list (l.map PyData.str)).canLay0 = true
  | [], _ => rfl
  | z :: l, h => by
    show ((PyData.str z).canLay0 && (PyData.list (l.map PyData.str)).canLay0) = true
    rw [h z List.mem_cons_self, can_strs fun x hx => h x (List.mem_cons_of_mem _ hx)]; rfl
theorem dep_strs (l : List Str) : (PyData.list (l.map PyData.str)).depth ≤ 64 := by
  have h : ∀ l : List Str, PyData.depthAll (l.map PyData.str) ≤ 0 := fun l => by
    induction l with
    | nil => exact Nat.le_refl 0
    | cons z l ih =>
      show max 0 (PyData.depthAll (l.map PyData.str)) ≤ 0
      omega
  have := h l
  show PyData.depthAll (l.map PyData.str) + 1 ≤ 64
  omega
end R

local macro_rules | `(tactic| walk_at "s") => `(tactic| first
  | with_reducible refine R.a_seq ?_ | with_reducible refine R.a_asg ?_ | with_reducible refine R.a_gname ?_ | ((with_reducible refine' R.a_var ?h1 ?h2); (case h1 => rfl)) | with_reducible refine R.a_c ?_
  | with_reducible refine R.a_op ?_ | with_reducible refine R.a_un ?_ | with_reducible refine R.a_neg ?_ | with_reducible refine R.a_drop ?_ | with_reducible refine R.a_ret ?_ | with_reducible refine R.a_retN ?_
  | with_reducible refine R.a_test ?_ | with_reducible refine R.a_tB ?_ | with_reducible refine R.a_bk ?_ | with_reducible refine R.a_and ?_ | with_reducible refine R.a_or ?_ | with_reducible refine R.a_not ?_
  | with_reducible refine R.a_andV ?_ | with_reducible refine R.a_orV ?_ | with_reducible refine R.a_notV ?_ | with_reducible refine R.a_bv ?_ | with_reducible refine R.a_ifE ?_
  | with_reducible refine R.a_nil ?_ | with_reducible refine R.a_cons ?_ | with_reducible refine R.a_tup ?_ | with_reducible refine R.a_lst ?_ | with_reducible refine R.a_cb ?_ | with_reducible refine R.a_call ?_ | with_reducible refine R.a_chain ?_
  | with_reducible refine R.a_sl ?_ | with_reducible refine R.a_npart ?_ | with_reducible refine R.a_part ?_ | with_reducible refine R.a_ik ?_ | with_reducible refine R.a_gsub ?_ | with_reducible refine R.a_bm ?_ | with_reducible refine R.a_bm0 ?_ | with_reducible refine R.a_par ?_ | with_reducible refine R.a_par2 ?_
  | with_reducible refine R.a_for ?_ | with_reducible refine R.a_rev ?_ | with_reducible refine R.a_iL ?_ | with_reducible refine R.a_iT ?_ | with_reducible refine R.a_enum ?_ | with_reducible refine R.a_lc ?_ | with_reducible refine R.a_rng1 ?_ | with_reducible refine R.a_rng2 ?_ | with_reducible refine R.a_next ?_ | with_reducible refine R.a_yes ?_ | with_reducible refine R.a_gcons ?_ | with_reducible refine R.a_gnil ?_
  | ((with_reducible refine R.a_rng1' ?h1 ?h2 ?h3); (case h1 => omega); (case h2 => omega)) | ((with_reducible refine R.a_rng2' ?h1 ?h2); (case h1 => omega))
  | with_reducible refine R.a_I0 ?_ | with_reducible refine R.a_eqI ?_ | with_reducible refine R.a_neI ?_ | with_reducible refine R.a_isN1 ?_ | with_reducible refine R.a_notN1 ?_
  | ((with_reducible refine R.a_isN0 ?h1 ?h2); (case h1 => (intro z; cases z))) | ((with_reducible refine R.a_notN0 ?h1 ?h2); (case h1 => (intro z; cases z)))
  | with_reducible refine R.a_isiI ?_ | with_reducible refine R.a_isiB ?_
  | ((with_reducible refine R.a_I ?h1 ?h2); (case h1 => first | omega | exact R.mx_l (by omega) (by omega) | exact R.mx_r (by omega) (by omega) | exact R.divW (by omega) (by omega)))
  | with_reducible refine R.a_tt ?_ | with_reducible refine R.a_ff ?_ | with_reducible refine R.a_nt ?_ | with_reducible refine R.a_nf ?_)
-- a test whose answer is known
local macro_rules | `(tactic| walk_at "k") => `(tactic| first
  | ((with_reducible refine R.a_itT ?h1 ?h2); (case h1 => first | assumption | omega)) | ((with_reducible refine R.a_itF ?h1 ?h2); (case h1 => first | assumption | omega))
  | ((with_reducible refine R.a_niT ?h1 ?h2); (case h1 => first | assumption | omega)) | ((with_reducible refine R.a_niF ?h1 ?h2); (case h1 => first | assumption | omega)))
local macro_rules | `(tactic| walk_at "k") => `(tactic| first
  | ((with_reducible refine R.a_cT ?h1 ?h2 ?h3); (case h1 => first | assumption | omega); (case h2 => first | assumption | omega))
  | ((with_reducible refine R.a_ncT ?h1 ?h2 ?h3); (case h1 => first | assumption | omega); (case h2 => first | assumption | omega)))
local macro_rules | `(tactic| walk_at "c") => `(tactic| fail)
local macro_rules | `(tactic| walk_at "sq") => `(tactic| first | assumption | (refine' R.Own.sq ?o 0 ?e; (case o => assumption); (case e => rfl)) | (refine' R.Own.sq ?o 1 ?e; (case o => assumption); (case e => rfl)) | (refine' R.Own.sq ?o 2 ?e; (case o => assumption); (case e => rfl)) | (refine' R.Own.sq ?o 3 ?e; (case o => assumption); (case e => rfl)) | (refine' R.Own.sq ?o 4 ?e; (case o => assumption); (case e => rfl)) | (refine' R.Own.sq ?o 5 ?e; (case o => assumption); (case e => rfl)) | (refine' R.Own.sq ?o 6 ?e; (case o => assumption); (case e => rfl)) | (refine' R.Own.sq ?o 7 ?e; (case o => assumption); (case e => rfl)) | (refine' R.Own.sq ?o 8 ?e; (case o => assumption); (case e => rfl)) | (refine' R.Own.sq ?o 9 ?e; (case o => assumption); (case e => rfl)) | (refine' R.Own.seq ?o ?e; (case o => assumption); (case e => assumption)))
local macro_rules | `(tactic| walk_at "tq") => `(tactic| first | assumption | (refine' R.Own.tq ?o 0 ?e; (case o => assumption); (case e => rfl)) | (refine' R.Own.tq ?o 1 ?e; (case o => assumption); (case e => rfl)) | (refine' R.Own.tq ?o 2 ?e; (case o => assumption); (case e => rfl)) | (refine' R.Own.tq ?o 3 ?e; (case o => assumption); (case e => rfl)) | (refine' R.Own.tq ?o 4 ?e; (case o => assumption); (case e => rfl)) | (refine' R.Own.tq ?o 5 ?e; (case o => assumption); (case e => rfl)) | (refine' R.Own.tq ?o 6 ?e; (case o => assumption); (case e => rfl)) | (refine' R.Own.tq ?o 7 ?e; (case o => assumption); (case e => rfl)) | (refine' R.Own.tq ?o 8 ?e; (case o => assumption); (case e => rfl)) | (refine' R.Own.tq ?o 9 ?e; (case o => assumption); (case e => rfl)) | (refine' R.Own.tup ?o ?e; (case o => assumption); (case e => assumption)))
local macro_rules | `(tactic| walk_at "c") => `(tactic| first
  | ((with_reducible refine' R.a_ixL ?s ?a ?q); (case s => walk_at "sq"); (case a => rfl))
  | ((with_reducible refine' R.a_ixT ?s ?a ?q); (case s => walk_at "tq"); (case a => rfl))
  | ((with_reducible refine' R.a_gtup ?k1 ?k2 ?k3); (case k1 => walk_at "tq"); (case k2 => rfl))
  | with_reducible refine R.a_int1 ?_ | with_reducible refine R.a_abs ?_
  | ((with_reducible refine' R.a_len ?k1 ?k2); (case k1 => first | (refine Or.inl ?_; walk_at "sq") | (refine Or.inr ?_; walk_at "tq")))
  | ((with_reducible refine' R.a_pow (k := 18) ?n ?k ?m ?q); (case n => rfl); (case k => decide); (case m => decide)) | ((with_reducible refine' R.a_pow (k := 40) ?n ?k ?m ?q); (case n => rfl); (case k => decide); (case m => decide)) | ((with_reducible refine' R.a_pow (k := 6) ?n ?k ?m ?q); (case n => rfl); (case k => decide); (case m => decide)) | ((with_reducible refine' R.a_pow (k := 20) ?n ?k ?m ?q); (case n => rfl); (case k => decide); (case m => decide)) | ((with_reducible refine' R.a_pow (k := 30) ?n ?k ?m ?q); (case n => rfl); (case k => decide); (case m => decide)) | ((with_reducible refine' R.a_pow (k := 39) ?n ?k ?m ?q); (case n => rfl); (case k => decide); (case m => decide))
  | ((with_reducible refine' R.a_setL ?k1 0 ?k2 ?k3 ?k4); (case k1 => assumption); (case k2 => rfl); (case k3 => rfl); intro H' O') | ((with_reducible refine' R.a_setL ?k1 1 ?k2 ?k3 ?k4); (case k1 => assumption); (case k2 => rfl); (case k3 => rfl); intro H' O') | ((with_reducible refine' R.a_setL ?k1 2 ?k2 ?k3 ?k4); (case k1 => assumption); (case k2 => rfl); (case k3 => rfl); intro H' O') | ((with_reducible refine' R.a_setL ?k1 3 ?k2 ?k3 ?k4); (case k1 => assumption); (case k2 => rfl); (case k3 => rfl); intro H' O') | ((with_reducible refine' R.a_setL ?k1 4 ?k2 ?k3 ?k4); (case k1 => assumption); (case k2 => rfl); (case k3 => rfl); intro H' O') | ((with_reducible refine' R.a_setL ?k1 5 ?k2 ?k3 ?k4); (case k1 => assumption); (case k2 => rfl); (case k3 => rfl); intro H' O') | ((with_reducible refine' R.a_setL ?k1 6 ?k2 ?k3 ?k4); (case k1 => assumption); (case k2 => rfl); (case k3 => rfl); intro H' O') | ((with_reducible refine' R.a_setL ?k1 7 ?k2 ?k3 ?k4); (case k1 => assumption); (case k2 => rfl); (case k3 => rfl); intro H' O') | ((with_reducible refine' R.a_setL ?k1 8 ?k2 ?k3 ?k4); (case k1 => assumption); (case k2 => rfl); (case k3 => rfl); intro H' O') | ((with_reducible refine' R.a_setL ?k1 9 ?k2 ?k3 ?k4); (case k1 => assumption); (case k2 => rfl); (case k3 => rfl); intro H' O'))
local macro_rules | `(tactic| walk_at "app") => `(tactic| first | ((with_reducible refine' R.a_app ?k1 0 ?k2 ?k3 ?k4); (case k1 => assumption); (case k2 => rfl)) | ((with_reducible refine' R.a_app ?k1 1 ?k2 ?k3 ?k4); (case k1 => assumption); (case k2 => rfl)) | ((with_reducible refine' R.a_app ?k1 2 ?k2 ?k3 ?k4); (case k1 => assumption); (case k2 => rfl)) | ((with_reducible refine' R.a_app ?k1 3 ?k2 ?k3 ?k4); (case k1 => assumption); (case k2 => rfl)) | ((with_reducible refine' R.a_app ?k1 4 ?k2 ?k3 ?k4); (case k1 => assumption); (case k2 => rfl)) | ((with_reducible refine' R.a_app ?k1 5 ?k2 ?k3 ?k4); (case k1 => assumption); (case k2 => rfl)))
local macro_rules | `(tactic| walk_at "mkL") => `(tactic| ((with_reducible refine' R.a_mkL ?k1 ?k2 ?k3); (case k1 => assumption); (case k2 => first | exact Nat.zero_le _ | (simp only [List.length_cons, List.length_nil, List.length_map]; omega))))
local macro_rules | `(tactic| walk_at "mkT") => `(tactic| ((with_reducible refine' R.a_mkT ?k1 ?k2 ?k3); (case k1 => assumption); (case k2 => first | exact Nat.zero_le _ | (simp only [List.length_cons, List.length_nil, List.length_map]; omega))))
local macro_rules | `(tactic| walk_at "h") => `(tactic| repeat (first | walk_at "s" | walk_at "k" | walk_at "c"))
local macro_rules | `(tactic| walk_at "g") => `(tactic| repeat (first | walk_at "s" | walk_at "k" | walk_at "c" | with_reducible refine R.a_if ?_))
local macro_rules | `(tactic| walk_at "s") => `(tactic| with_reducible refine R.a_enumT ?_)
local macro_rules | `(tactic| walk_at "s") => `(tactic| first | with_reducible refine R.a_fld ?_ | with_reducible refine R.a_sfld ?_ | with_reducible refine R.a_make ?_)
local macro_rules | `(tactic| walk_at "c") => `(tactic| ((with_reducible refine' R.a_glst ?k1 ?k2 ?k3); (case k1 => walk_at "sq"); (case k2 => rfl)))
local macro_rules | `(tactic| walk_at "s") => `(tactic| first | with_reducible refine R.a_neB ?_ | with_reducible refine R.a_eqB ?_ | with_reducible refine R.a_neO ?_ | with_reducible refine R.a_isO1 ?_ | with_reducible refine R.a_isO0 ?_ | with_reducible refine R.a_notO1 ?_ | with_reducible refine R.a_notO0 ?_)
local macro_rules | `(tactic| walk_at "s") => `(tactic| first | with_reducible refine R.a_par3 ?_ | with_reducible refine R.a_par33 ?_)
local macro_rules | `(tactic| walk_at "s") => `(tactic| first | with_reducible refine R.a_vei ?_ | with_reducible refine R.a_ost ?_ | with_reducible refine R.a_raise0 ?_ | with_reducible refine R.a_raise1 ?_ | with_reducible refine R.a_r1 ?_ | with_reducible refine R.a_try ?_ | with_reducible refine R.a_as ?_ | with_reducible refine R.a_xf ?_ | with_reducible refine R.a_callV ?_ | with_reducible refine R.a_callS ?_ | with_reducible refine R.a_makeS ?_ | with_reducible refine R.a_meth ?_)
local macro_rules | `(tactic| walk_at "callV") => `(tactic| ((first | refine ⟨_, _, rfl, (.head _), ?_⟩ | refine ⟨_, _, rfl, (.tail _ (.head _)), ?_⟩ | refine ⟨_, _, rfl, (.tail _ (.tail _ (.head _))), ?_⟩ | refine ⟨_, _, rfl, (.tail _ (.tail _ (.tail _ (.head _)))), ?_⟩ | refine ⟨_, _, rfl, (.tail _ (.tail _ (.tail _ (.tail _ (.head _))))), ?_⟩ | refine ⟨_, _, rfl, (.tail _ (.tail _ (.tail _ (.tail _ (.tail _ (.head _)))))), ?_⟩ | refine ⟨_, _, rfl, (.tail _ (.tail _ (.tail _ (.tail _ (.tail _ (.tail _ (.head _))))))), ?_⟩ | refine ⟨_, _, rfl, (.tail _ (.tail _ (.tail _ (.tail _ (.tail _ (.tail _ (.tail _ (.head _)))))))), ?_⟩); walk_at "g"))
local macro_rules | `(tactic| walk_at "s") => `(tactic| first | with_reducible refine R.a_neS1 ?_ | with_reducible refine R.a_eqS1 ?_)
local macro_rules | `(tactic| walk_at "badv") => `(tactic| first | exact R.BadV.non | exact R.BadV.bl | exact R.BadV.str (by first | rfl | decide +kernel) | exact R.BadV.int (by omega))
local macro_rules | `(tactic| walk_at "s") => `(tactic| with_reducible refine R.a_prop ?_)

namespace Toy
open PySem PySem.Spec PyProof.Rows L2 R
open PySem.W (Frag)
def topS (i : Nat) : Stmt := PySem.Challenge.pw_resttricks_k38_texts.main.body.getD i (.Pass ⟨0, 0, 0, 0⟩)
abbrev s_InvalidText_init : Stmt := (inClass (topS 6) 0)
abbrev N_InvalidText_init : List Str := ["self", "word"]
abbrev p_InvalidText_init : List Str := ["self", "word"]
theorem sc_InvalidText_init : FnScope N_InvalidText_init p_InvalidText_init (defScope s_InvalidText_init) := ⟨rfl, rfl, rfl, by decide +kernel, rfl, by decide +kernel, by decide +kernel⟩
abbrev s_is_from : Stmt := (topS 10)
abbrev N_is_from : List Str := ["value", "low", "high"]
abbrev p_is_from : List Str := ["value", "low", "high"]
theorem sc_is_from : FnScope N_is_from p_is_from (defScope s_is_from) := ⟨rfl, rfl, rfl, by decide +kernel, rfl, by decide +kernel, by decide +kernel⟩
abbrev s_need_base : Stmt := (topS 11)
abbrev N_need_base : List Str := ["base"]
abbrev p_need_base : List Str := ["base"]
theorem sc_need_base : FnScope N_need_base p_need_base (defScope s_need_base) := ⟨rfl, rfl, rfl, by decide +kernel, rfl, by decide +kernel, by decide +kernel⟩
abbrev s_power : Stmt := (topS 12)
abbrev N_power : List Str := ["base", "many", "found", "turn"]
abbrev p_power : List Str := ["base", "many"]
theorem sc_power : FnScope N_power p_power (defScope s_power) := ⟨rfl, rfl, rfl, by decide +kernel, rfl, by decide +kernel, by decide +kernel⟩
abbrev s_Trick_init : Stmt := (inClass (topS 16) 0)
abbrev N_Trick_init : List Str := ["self", "base", "take", "times"]
abbrev p_Trick_init : List Str := ["self", "base", "take", "times"]
theorem sc_Trick_init : FnScope N_Trick_init p_Trick_init (defScope s_Trick_init) := ⟨rfl, rfl, rfl, by decide +kernel, rfl, by decide +kernel, by decide +kernel⟩
abbrev s_Trick_eq : Stmt := (inClass (topS 16) 4)
abbrev N_Trick_eq : List Str := ["self", "other"]
abbrev p_Trick_eq : List Str := ["self", "other"]
theorem sc_Trick_eq : FnScope N_Trick_eq p_Trick_eq (defScope s_Trick_eq) := ⟨rfl, rfl, rfl, by decide +kernel, rfl, by decide +kernel, by decide +kernel⟩
abbrev s_need_trick : Stmt := (topS 17)
abbrev N_need_trick : List Str := ["trick"]
abbrev p_need_trick : List Str := ["trick"]
theorem sc_need_trick : FnScope N_need_trick p_need_trick (defScope s_need_trick) := ⟨rfl, rfl, rfl, by decide +kernel, rfl, by decide +kernel, by decide +kernel⟩
abbrev s_write : Stmt := (topS 19)
abbrev N_write : List Str := ["trick"]
abbrev p_write : List Str := ["trick"]
theorem sc_write : FnScope N_write p_write (defScope s_write) := ⟨rfl, rfl, rfl, by decide +kernel, rfl, by decide +kernel, by decide +kernel⟩
abbrev s_number_in : Stmt := (topS 20)
abbrev N_number_in : List Str := ["words", "at", "low", "high", "number"]
abbrev p_number_in : List Str := ["words", "at", "low", "high"]
theorem sc_number_in : FnScope N_number_in p_number_in (defScope s_number_in) := ⟨rfl, rfl, rfl, by decide +kernel, rfl, by decide +kernel, by decide +kernel⟩
abbrev s_need_word : Stmt := (topS 21)
abbrev N_need_word : List Str := ["words", "at", "told"]
abbrev p_need_word : List Str := ["words", "at", "told"]
theorem sc_need_word : FnScope N_need_word p_need_word (defScope s_need_word) := ⟨rfl, rfl, rfl, by decide +kernel, rfl, by decide +kernel, by decide +kernel⟩
abbrev s_read : Stmt := (topS 22)
abbrev N_read : List Str := ["text", "words", "base", "take", "times", "word"]
abbrev p_read : List Str := ["text"]
theorem sc_read : FnScope N_read p_read (defScope s_read) := ⟨rfl, rfl, rfl, by decide +kernel, rfl, by decide +kernel, by decide +kernel⟩
abbrev s_law_taken : Stmt := (topS 24)
abbrev N_law_taken : List Str := ["_law_row", "_law_many", "_law_found", "_law_cell"]
abbrev p_law_taken : List Str := ["_law_row", "_law_many"]
theorem sc_law_taken : FnScope N_law_taken p_law_taken (defScope s_law_taken) := ⟨rfl, rfl, rfl, by decide +kernel, rfl, by decide +kernel, by decide +kernel⟩
abbrev s_law_power : Stmt := (topS 25)
abbrev N_law_power : List Str := ["_law_base", "_law_many", "_law_found", "_law_turn"]
abbrev p_law_power : List Str := ["_law_base", "_law_many"]
theorem sc_law_power : FnScope N_law_power p_law_power (defScope s_law_power) := ⟨rfl, rfl, rfl, by decide +kernel, rfl, by decide +kernel, by decide +kernel⟩
abbrev s_law_trick : Stmt := (topS 26)
abbrev N_law_trick : List Str := ["_law_row", "_law_small", "_law_base", "_law_take", "_law_times", "_law_d", "_law_some", "_law_one"]
abbrev p_law_trick : List Str := ["_law_row", "_law_small"]
theorem sc_law_trick : FnScope N_law_trick p_law_trick (defScope s_law_trick) := ⟨rfl, rfl, rfl, by decide +kernel, rfl, by decide +kernel, by decide +kernel⟩
abbrev s_law_wrong : Stmt := (topS 27)
abbrev N_law_wrong : List Str := ["_law_words", "_law_lots", "_law_at", "_law_base", "_law_times"]
abbrev p_law_wrong : List Str := ["_law_words"]
theorem sc_law_wrong : FnScope N_law_wrong p_law_wrong (defScope s_law_wrong) := ⟨rfl, rfl, rfl, by decide +kernel, rfl, by decide +kernel, by decide +kernel⟩
abbrev s_law_refused : Stmt := (topS 28)
abbrev N_law_refused : List Str := ["_law_text", "_law_found", "e"]
abbrev p_law_refused : List Str := ["_law_text"]
theorem sc_law_refused : FnScope N_law_refused p_law_refused (defScope s_law_refused) := ⟨rfl, rfl, rfl, by decide +kernel, rfl, by decide +kernel, by decide +kernel⟩
abbrev s_law : Stmt := (topS 29)
abbrev N_law : List Str := ["_law_script", "_law_line", "_law_odd", "_law_turn", "_law_base", "_law_take", "_law_times", "_law_words", "_law_wide", "_law_k", "_law_at", "_law_kind", "_law_more", "_law_word"]
abbrev p_law : List Str := ["_law_script"]
theorem sc_law : FnScope N_law p_law (defScope s_law) := ⟨rfl, rfl, rfl, by decide +kernel, rfl, by decide +kernel, by decide +kernel⟩
structure Adr where
  f_InvalidText_init : Addr
  d_InvalidText_init : FuncData
  f_is_from : Addr
  d_is_from : FuncData
  f_need_base : Addr
  d_need_base : FuncData
  f_power : Addr
  d_power : FuncData
  f_Trick_init : Addr
  d_Trick_init : FuncData
  f_Trick_eq : Addr
  d_Trick_eq : FuncData
  f_need_trick : Addr
  d_need_trick : FuncData
  f_write : Addr
  d_write : FuncData
  f_number_in : Addr
  d_number_in : FuncData
  f_need_word : Addr
  d_need_word : FuncData
  f_read : Addr
  d_read : FuncData
  f_law_taken : Addr
  d_law_taken : FuncData
  f_law_power : Addr
  d_law_power : FuncData
  f_law_trick : Addr
  d_law_trick : FuncData
  f_law_wrong : Addr
  d_law_wrong : FuncData
  f_law_refused : Addr
  d_law_refused : FuncData
  f_law : Addr
  d_law : FuncData
  c_Trick : Addr
  c_InvalidText : Addr
  c_TrickError : Addr
structure Txt (K : Frag) (mg : Str → Option Value) (Z : Adr) : Prop where
  F_InvalidText_init : Fun K "__init__" "InvalidText.__init__" s_InvalidText_init Z.f_InvalidText_init Z.d_InvalidText_init
  b_InvalidText_init : Binds K Z.d_InvalidText_init p_InvalidText_init []
  F_is_from : Fun K "is_from" "is_from" s_is_from Z.f_is_from Z.d_is_from
  b_is_from : Binds K Z.d_is_from p_is_from []
  g_is_from : mg "is_from" = some (.ref Z.f_is_from)
  F_need_base : Fun K "need_base" "need_base" s_need_base Z.f_need_base Z.d_need_base
  b_need_base : Binds K Z.d_need_base p_need_base []
  g_need_base : mg "need_base" = some (.ref Z.f_need_base)
  F_power : Fun K "power" "power" s_power Z.f_power Z.d_power
  b_power : Binds K Z.d_power p_power []
  g_power : mg "power" = some (.ref Z.f_power)
  F_Trick_init : Fun K "__init__" "Trick.__init__" s_Trick_init Z.f_Trick_init Z.d_Trick_init
  b_Trick_init : Binds K Z.d_Trick_init p_Trick_init []
  F_Trick_eq : Fun K "__eq__" "Trick.__eq__" s_Trick_eq Z.f_Trick_eq Z.d_Trick_eq
  b_Trick_eq : Binds K Z.d_Trick_eq p_Trick_eq []
  m_Trick_eq : Meth K Z.c_Trick "__eq__" Z.f_Trick_eq
  F_need_trick : Fun K "need_trick" "need_trick" s_need_trick Z.f_need_trick Z.d_need_trick
  b_need_trick : Binds K Z.d_need_trick p_need_trick []
  g_need_trick : mg "need_trick" = some (.ref Z.f_need_trick)
  F_write : Fun K "write" "write" s_write Z.f_write Z.d_write
  b_write : Binds K Z.d_write p_write []
  g_write : mg "write" = some (.ref Z.f_write)
  F_number_in : Fun K "number_in" "number_in" s_number_in Z.f_number_in Z.d_number_in
  b_number_in : Binds K Z.d_number_in p_number_in []
  g_number_in : mg "number_in" = some (.ref Z.f_number_in)
  F_need_word : Fun K "need_word" "need_word" s_need_word Z.f_need_word Z.d_need_word
  b_need_word : Binds K Z.d_need_word p_need_word []
  g_need_word : mg "need_word" = some (.ref Z.f_need_word)
  F_read : Fun K "read" "read" s_read Z.f_read Z.d_read
  b_read : Binds K Z.d_read p_read []
  g_read : mg "read" = some (.ref Z.f_read)
  F_law_taken : Fun K "_law_taken" "_law_taken" s_law_taken Z.f_law_taken Z.d_law_taken
  b_law_taken : Binds K Z.d_law_taken p_law_taken []
  g_law_taken : mg "_law_taken" = some (.ref Z.f_law_taken)
  F_law_power : Fun K "_law_power" "_law_power" s_law_power Z.f_law_power Z.d_law_power
  b_law_power : Binds K Z.d_law_power p_law_power []
  g_law_power : mg "_law_power" = some (.ref Z.f_law_power)
  F_law_trick : Fun K "_law_trick" "_law_trick" s_law_trick Z.f_law_trick Z.d_law_trick
  b_law_trick : Binds K Z.d_law_trick p_law_trick []
  g_law_trick : mg "_law_trick" = some (.ref Z.f_law_trick)
  F_law_wrong : Fun K "_law_wrong" "_law_wrong" s_law_wrong Z.f_law_wrong Z.d_law_wrong
  b_law_wrong : Binds K Z.d_law_wrong p_law_wrong []
  g_law_wrong : mg "_law_wrong" = some (.ref Z.f_law_wrong)
  F_law_refused : Fun K "_law_refused" "_law_refused" s_law_refused Z.f_law_refused Z.d_law_refused
  b_law_refused : Binds K Z.d_law_refused p_law_refused []
  g_law_refused : mg "_law_refused" = some (.ref Z.f_law_refused)
  F_law : Fun K "law" "law" s_law Z.f_law Z.d_law
  b_law : Binds K Z.d_law p_law []
  g_law : mg "law" = some (.ref Z.f_law)
  g_Trick : mg "Trick" = some (.ref Z.c_Trick)
  cl_Trick : Cls K Z.c_Trick
  is_Trick : C8.InsC K Z.c_Trick
  M_Trick : Mk K Z.c_Trick Z.f_Trick_init
  sl_Trick : PySem.W.subIn K (.ref Z.c_Trick) (.type "list") = some false
  st_Trick : PySem.W.subIn K (.ref Z.c_Trick) (.type "tuple") = some false
  ty_Trick : ((PySem.W.clsIn K Z.c_Trick).isSome && PySem.W.typeIn K (.ref Z.c_Trick) == some (.type "type")) = true
  nf_Trick_basis : NoAttr K Z.c_Trick "basis"
  nf_Trick_many : NoAttr K Z.c_Trick "many"
  nf_Trick_factor : NoAttr K Z.c_Trick "factor"
  nf_Trick_block : NoAttr K Z.c_Trick "block"
  g_InvalidText : mg "InvalidText" = some (.ref Z.c_InvalidText)
  g_TrickError : mg "TrickError" = some (.ref Z.c_TrickError)
  oi_TrickError : OinC K Z.c_TrickError
  ox_InvalidText : OexC K Z.c_InvalidText
  xf_InvalidText : XfC K Z.c_InvalidText
  ix_InvalidText : PySem.W.findIn K (.ref Z.c_InvalidText) "__init__" = some (some (.ref Z.f_InvalidText_init))
  tx_InvalidText : PySem.W.typeIn K (.ref Z.f_InvalidText_init) = some (.type "function")
  nx_InvalidText_word : PySem.W.findIn K (.ref Z.c_InvalidText) "word" = some none
  em_InvalidText_InvalidText : PySem.W.exmOne K (.ref Z.c_InvalidText) (.ref Z.c_InvalidText) = some true
  v_LEAST_BASE : ∃ t, mg "LEAST_BASE" = some (.int (2) t)
  v_MOST_BASE : ∃ t, mg "MOST_BASE" = some (.int (16) t)
  v_MOST_TAKE : ∃ t, mg "MOST_TAKE" = some (.int (2) t)
  v_MOST_TIMES : ∃ t, mg "MOST_TIMES" = some (.int (100) t)
  n_isinstance : mg "isinstance" = none
  n_int : mg "int" = none
  n_bool : mg "bool" = none
  n_range : mg "range" = none
  n_len : mg "len" = none
  n_str : mg "str" = none
section
variable {P : Program} {w : World} {K : Frag} {mg : Str → Option Value} {base : Heap} {Z : Adr}

/-! ### InvalidText_init -/
theorem ok_InvalidText_init (T : Txt K mg Z) : FnOk P w K mg base CX0 1 Z.f_InvalidText_init Z.d_InvalidText_init p_InvalidText_init (sp_exc1 Z.c_InvalidText "word") := by
  refine T.F_InvalidText_init.ok sc_InvalidText_init (fun vs H Q E h => ?_) (fun cdv A outer s H vs Q E hr h => ?_)
  · obtain ⟨_, _, rfl, _⟩ := h; rfl
  · obtain ⟨a, v, rfl, ha, h⟩ := h
    refine ⟨_, (pss_cons (ps_expr (pe_oeinit rfl T.g_TrickError T.oi_TrickError (pa_cons (pv 0) (pa_cons pe_str pa_nil))))
    (pss_one (ps_ost (pv 0) (pv 1)))), ?_⟩
    walk_at "g"
    refine ⟨a, _, _, rfl, (by show 1 ≤ 1000; decide), T.ox_InvalidText, ha, ?_⟩
    walk_at "g"
    refine ⟨a, _, rfl, T.ox_InvalidText, T.nx_InvalidText_word, .inl ⟨ha, fun dx h1 h2 => ?_⟩⟩
    walk_at "g"
    exact h dx h1 h2

/-! ### is_from -/
def sp_is_from (K : Frag) : Sp := fun vs H Q _ => ∃ i lo hi : Int, vs = [.int i, .int lo, .int hi] ∧ Q (.bl (decide (lo ≤ i) && decide (i ≤ hi))) H
theorem use_is_from {K : Frag} {i lo hi : Int} {H : Hp} {Q : VK} {E : XK} (h : Q (.bl (decide (lo ≤ i) && decide (i ≤ hi))) H) : sp_is_from K ([.int i, .int lo, .int hi] ++ []) H Q E := ⟨_, _, _, rfl, h⟩
theorem ok_is_from (T : Txt K mg Z) : FnOk P w K mg base CX0 1 Z.f_is_from Z.d_is_from p_is_from (sp_is_from K) := by
  refine T.F_is_from.ok sc_is_from (fun vs H Q E h => ?_) (fun cdv A outer s H vs Q E hr h => ?_)
  · obtain ⟨_, _, _, rfl, _⟩ := h; rfl
  · obtain ⟨i, lo, hi, rfl, h⟩ := h
    refine ⟨_, (pss_one (ps_ret (pe_and (pe_callB (r := rIsi K) call_isi (by rfl) T.n_isinstance boot_isinstance (pa_cons (pv 0) (pa_cons (pe_bltn (v := .ty "int") (by rfl) T.n_int boot_int rfl) pa_nil))) (pe_and (pe_not (pe_callB (r := rIsi K) call_isi (by rfl) T.n_isinstance boot_isinstance (pa_cons (pv 0) (pa_cons (pe_bltn (v := .ty "bool") (by rfl) T.n_bool boot_bool rfl) pa_nil)))) (pe_one (pe_chain op_le op_le (pv 1) (pv 0) (pv 2))))))), ?_⟩
    walk_at "g"
    refine a_it2 (fun c => ?_) (fun c => ?_)
    · walk_at "g"
      rw [decide_eq_true c, Bool.true_and] at h; exact h
    · rw [decide_eq_false c] at h; exact h
-- @USE
local macro_rules | `(tactic| walk_at "c") => `(tactic| with_reducible refine use_is_from ?_)

/-! ### need_base -/
def sp_need_base : Sp := fun vs H Q _ => ∃ b : Int, vs = [.int b] ∧ 2 ≤ b ∧ b ≤ 16 ∧ Q .non H
theorem use_need_base {b : Int} {H : Hp} {Q : VK} {E : XK} (h1 : 2 ≤ b) (h2 : b ≤ 16) (h : Q .non H) : sp_need_base ([.int b] ++ []) H Q E := ⟨_, rfl, h1, h2, h⟩
theorem ok_need_base (T : Txt K mg Z) : FnOk P w K mg base CX0 2 Z.f_need_base Z.d_need_base p_need_base sp_need_base := by
  refine T.F_need_base.ok sc_need_base (fun vs H Q E h => ?_) (fun cdv A outer s H vs Q E hr h => ?_)
  · obtain ⟨_, rfl, _⟩ := h; rfl
  · obtain ⟨b, rfl, h1, h2, h⟩ := h
    refine ⟨_, (pss_one (ps_if (pt_not (pt_val (pe_call (ok_is_from T) (hr.mono (by decide)) rfl T.g_is_from T.F_is_from.kp T.b_is_from .nil pass0 (pa_cons (pv 0) (pa_cons (pe_globI rfl T.v_LEAST_BASE) (pa_cons (pe_globI rfl T.v_MOST_BASE) pa_nil)))))) (pss_one ps_never) pss_nil)), ?_⟩
    walk_at "g"
    exact h
-- @USE
local macro_rules | `(tactic| walk_at "c") => `(tactic| ((with_reducible refine use_need_base ?h1 ?h2 ?h3); (case h1 => omega); (case h2 => omega)))

/-! ### power -/
def sp_power : Sp := fun vs H Q _ => ∃ b m : Int, vs = [.int b, .int m] ∧ -(2 ^ 62) ≤ m ∧ m < 2 ^ 62 ∧ -(2 ^ 64) < b ∧ b < 2 ^ 64 ∧ Q (.int (b ^ m.toNat)) H
theorem use_power {b m : Int} {H : Hp} {Q : VK} {E : XK} (h1 : -(2 ^ 62) ≤ m ∧ m < 2 ^ 62 ∧ -(2 ^ 64) < b ∧ b < 2 ^ 64) (h : Q (.int (b ^ m.toNat)) H) : sp_power ([.int b, .int m] ++ []) H Q E := ⟨_, _, rfl, h1.1, h1.2.1, h1.2.2.1, h1.2.2.2, h⟩
theorem ok_power (T : Txt K mg Z) : FnOk P w K mg base CX0 1 Z.f_power Z.d_power p_power sp_power := by
  refine T.F_power.ok sc_power (fun vs H Q E h => ?_) (fun cdv A outer s H vs Q E hr h => ?_)
  · obtain ⟨_, _, rfl, _⟩ := h; rfl
  · obtain ⟨b, m, rfl, h1, h2, h3, h4, h⟩ := h
    refine ⟨_, (pss_cons (ps_set (i := 2) sc_power.nd rfl (Or.inl rfl) pe_int)
    (pss_cons (ps_for PassesOwn.never rfl (pi_range1 rfl T.n_range (pa_cons (pv 1) pa_nil)) (pg_name (i := 3) sc_power.nd rfl (Or.inl rfl))
    (pss_one (ps_set (i := 2) sc_power.nd rfl (Or.inl rfl) (pe_op op_mulX (pv 2) (pv 0)))))
    (pss_one (ps_ret (pv 2))))), ?_⟩
    walk_at "g"
    refine for_range (fun i σ H' => H' = H ∧ ∃ v, σ = [some (.int b), some (.int m), some (.int (b ^ i)), v]) ⟨rfl, none, by rw [Int.pow_zero]; rfl⟩ ?_ ?_
    · rintro i σ H' hi ⟨rfl, v, rfl⟩
      walk_at "g"
      exact ⟨rfl, _, by rw [Int.pow_succ]; rfl⟩
    · rintro σ H' ⟨rfl, v, rfl⟩
      walk_at "g"
      exact h
-- @USE
local macro_rules | `(tactic| walk_at "c") => `(tactic| ((with_reducible refine use_power ?h1 ?h2); (case h1 => omega)))

/-! ### Trick_init -/
/-- the fields of a trick -/
def trickF (b k t : Int) : List (Str × V) := [("basis", .int b), ("many", .int k), ("factor", .int t), ("block", .int (b ^ k.toNat))]
def TrickOk (b k t : Int) : Prop := (2 ≤ b ∧ b ≤ 16) ∧ (1 ≤ k ∧ k ≤ 2) ∧ -100 ≤ t ∧ t ≤ 100
def TrickAt (Z : Adr) (H : Hp) (a : Addr) (b k t : Int) : Prop := TrickOk b k t ∧ ∃ dx, H a = some (.ins Z.c_Trick dx (trickF b k t))
theorem TrickAt.up {B H : Hp} {Lw : List (Addr × HO)} {a : Addr} {b k t : Int} (O : Own B Lw H) (h : TrickAt Z B a b k t) : TrickAt Z H a b k t := by
  obtain ⟨h1, dx, h2⟩ := h
  exact ⟨h1, dx, O.st _ _ h2⟩
theorem TrickAt.same {B H : Hp} {a : Addr} {b k t : Int} (s : Same B H) (h : TrickAt Z B a b k t) : TrickAt Z H a b k t := by
  obtain ⟨h1, dx, h2⟩ := h
  exact ⟨h1, dx, s _ _ h2⟩
theorem block_small {b k : Int} (hb : 2 ≤ b ∧ b ≤ 16) (hk : 1 ≤ k ∧ k ≤ 2) : 2 ≤ b ^ k.toNat ∧ b ^ k.toNat ≤ 256 := by
  have e : k = 1 ∨ k = 2 := by omega
  rcases e with rfl | rfl
  · have z : b ^ (1 : Int).toNat = b := by rw [show (1 : Int).toNat = 1 from rfl, Int.pow_succ, Int.pow_zero, Int.one_mul]
    rw [z]; omega
  · have z : b ^ (2 : Int).toNat = b * b := by rw [show (2 : Int).toNat = 2 from rfl, Int.pow_succ, Int.pow_succ, Int.pow_zero, Int.one_mul]
    rw [z]
    have h1 : b * 2 ≤ b * b := Int.mul_le_mul_of_nonneg_left hb.1 (by omega)
    have h2 : b * b ≤ 16 * 16 := Int.mul_le_mul hb.2 hb.2 (by omega) (by omega)
    omega
theorem get_block {H : Hp} {a : Addr} {b k t : Int} {Q : VK} (T : Txt K mg Z) (h : TrickAt Z H a b k t) (q : Q (.int (b ^ k.toNat)) H) : rFld K "block" (.ref a) H Q := by
  obtain ⟨_, dx, h⟩ := h
  refine a_getF h T.cl_Trick T.nf_Trick_block ?_ q
  unfold trickF
  rw [lk_ne (by decide +kernel), lk_ne (by decide +kernel), lk_ne (by decide +kernel), lk_eq]
theorem get_factor {H : Hp} {a : Addr} {b k t : Int} {Q : VK} (T : Txt K mg Z) (h : TrickAt Z H a b k t) (q : Q (.int t) H) : rFld K "factor" (.ref a) H Q := by
  obtain ⟨_, dx, h⟩ := h
  refine a_getF h T.cl_Trick T.nf_Trick_factor ?_ q
  unfold trickF
  rw [lk_ne (by decide +kernel), lk_ne (by decide +kernel), lk_eq]
theorem get_many {H : Hp} {a : Addr} {b k t : Int} {Q : VK} (T : Txt K mg Z) (h : TrickAt Z H a b k t) (q : Q (.int k) H) : rFld K "many" (.ref a) H Q := by
  obtain ⟨_, dx, h⟩ := h
  refine a_getF h T.cl_Trick T.nf_Trick_many ?_ q
  unfold trickF
  rw [lk_ne (by decide +kernel), lk_eq]
theorem get_basis {H : Hp} {a : Addr} {b k t : Int} {Q : VK} (T : Txt K mg Z) (h : TrickAt Z H a b k t) (q : Q (.int b) H) : rFld K "basis" (.ref a) H Q := by
  obtain ⟨_, dx, h⟩ := h
  refine a_getF h T.cl_Trick T.nf_Trick_basis ?_ q
  unfold trickF
  rw [lk_eq]
def sp_Trick_init (C : Addr) : Sp := fun vs H Q _ => ∃ (x dx : Addr) (b k t : Int), vs = [.ref x, .int b, .int k, .int t] ∧ H x = some (.ins C dx []) ∧ TrickOk b k t ∧
  ∀ H', (∀ q v, q ≠ x → H q = some v → H' q = some v) → H' x = some (.ins C dx (trickF b k t)) → Q .non H'
theorem use_Trick {B H : Hp} {Lw : List (Addr × HO)} {b k t : Int} {Q : VK} {E : XK} (O : Own B Lw H) (hk : TrickOk b k t) (h : ∀ x B' H', B x = none → Same B B' → Own B' Lw H' → TrickAt Z B' x b k t → Q (.ref x) H') : NewI Z.c_Trick (sp_Trick_init Z.c_Trick) [] E [.int b, .int k, .int t] H Q := by
  intro x dx hx hdx ne
  have O1 := Own.new (o := .own x) O hdx
  have hx1 : upd H dx (.own x) x = none := by rw [upd_ne ne.symm]; exact hx
  have O2 := Own.new (o := .ins Z.c_Trick dx []) O1 hx1
  refine ⟨x, dx, b, k, t, rfl, upd_same, hk, fun H' k1 h1 => ⟨rfl, ?_⟩⟩
  have O3 : Own B ((x, .ins Z.c_Trick dx (trickF b k t)) :: (dx, .own x) :: Lw) H' := O2.but 0 rfl k1 h1
  exact h x _ H' (O.free hx) (O3.swap.fixS.trans O3.swap.fix.fixS) O3.swap.fix.fix ⟨hk, dx, upd_same⟩
theorem ok_Trick_init (T : Txt K mg Z) : FnOk P w K mg base CX0 3 Z.f_Trick_init Z.d_Trick_init p_Trick_init (sp_Trick_init Z.c_Trick) := by
  refine T.F_Trick_init.ok sc_Trick_init (fun vs H Q E h => ?_) (fun cdv A outer s H vs Q E hr h => ?_)
  · obtain ⟨_, _, _, _, _, rfl, _⟩ := h; rfl
  · obtain ⟨x, dx, b, k, t, rfl, hx, ⟨⟨hb1, hb2⟩, ⟨hk1, hk2⟩, ht1, ht2⟩, h⟩ := h
    have O := Own.refl1 hx
    refine ⟨_, (pss_cons (ps_expr (pe_call (ok_need_base T) (hr.mono (by decide)) rfl T.g_need_base T.F_need_base.kp T.b_need_base .nil pass0 (pa_cons (pv 1) pa_nil)))
    (pss_cons (ps_if (pt_not (pt_val (pe_call (ok_is_from T) (hr.mono (by decide)) rfl T.g_is_from T.F_is_from.kp T.b_is_from .nil pass0 (pa_cons (pv 2) (pa_cons pe_int (pa_cons (pe_globI rfl T.v_MOST_TAKE) pa_nil)))))) (pss_one ps_never) pss_nil)
    (pss_cons (ps_if (pt_not (pt_val (pe_call (ok_is_from T) (hr.mono (by decide)) rfl T.g_is_from T.F_is_from.kp T.b_is_from .nil pass0 (pa_cons (pv 3) (pa_cons (pe_un un_neg (pe_globI rfl T.v_MOST_TIMES)) (pa_cons (pe_globI rfl T.v_MOST_TIMES) pa_nil)))))) (pss_one ps_never) pss_nil)
    (pss_cons (ps_fld (pv 0) (pv 1) rfl)
    (pss_cons (ps_fld (pv 0) (pv 2) rfl)
    (pss_cons (ps_fld (pv 0) (pv 3) rfl)
    (pss_one (ps_fld (pv 0) (pe_call (ok_power T) (hr.mono (by decide)) rfl T.g_power T.F_power.kp T.b_power .nil pass0 (pa_cons (pv 1) (pa_cons (pv 2) pa_nil))) rfl)))))))), ?_⟩
    have n1 : ¬ ("basis" : Str) = "many" := by decide +kernel
    have n2 : ¬ ("basis" : Str) = "factor" := by decide +kernel
    have n3 : ¬ ("many" : Str) = "factor" := by decide +kernel
    have n4 : ¬ ("basis" : Str) = "block" := by decide +kernel
    have n5 : ¬ ("many" : Str) = "block" := by decide +kernel
    have n6 : ¬ ("factor" : Str) = "block" := by decide +kernel
    walk_at "g"
    refine a_setF O 0 rfl T.cl_Trick T.nf_Trick_basis (Nat.lt_of_le_of_lt (Nat.le_refl 0) (by decide)) (fun H1 O => ?_)
    simp only [List.set, put_nil] at O
    walk_at "g"
    refine a_setF O 0 rfl T.cl_Trick T.nf_Trick_many (Nat.lt_of_le_of_lt (Nat.le_refl 1) (by decide)) (fun H2 O => ?_)
    simp only [List.set, put_ne n1, put_nil] at O
    walk_at "g"
    refine a_setF O 0 rfl T.cl_Trick T.nf_Trick_factor (Nat.lt_of_le_of_lt (Nat.le_refl 2) (by decide)) (fun H3 O => ?_)
    simp only [List.set, put_ne n2, put_ne n3, put_nil] at O
    walk_at "g"
    refine a_setF O 0 rfl T.cl_Trick T.nf_Trick_block (Nat.lt_of_le_of_lt (Nat.le_refl 3) (by decide)) (fun H4 O => ?_)
    simp only [List.set, put_ne n4, put_ne n5, put_ne n6, put_nil] at O
    exact h _ (Own.toBut O) (O.get 0 rfl)
-- @USE
local macro_rules | `(tactic| walk_at "tr") => `(tactic| first | assumption | (refine' TrickAt.up ?k1 ?k2; (case k1 => assumption); (case k2 => assumption)))
local macro_rules | `(tactic| walk_at "c") => `(tactic| first
  | ((with_reducible refine' get_block ?k1 ?k2 ?k3); (case k1 => assumption); (case k2 => walk_at "tr"))
  | ((with_reducible refine' get_factor ?k1 ?k2 ?k3); (case k1 => assumption); (case k2 => walk_at "tr"))
  | ((with_reducible refine' get_many ?k1 ?k2 ?k3); (case k1 => assumption); (case k2 => walk_at "tr"))
  | ((with_reducible refine' get_basis ?k1 ?k2 ?k3); (case k1 => assumption); (case k2 => walk_at "tr")))

/-! ### Trick_eq -/
-- @NEEDS Trick_init
def sp_Trick_eq (K : Frag) (Z : Adr) : Sp := fun vs H Q _ => ∃ (a : Addr) (b k t : Int) (y : V), vs = [.ref a, y] ∧ TrickAt Z H a b k t ∧
  ((NoI K H y ∧ Q (.bl false) H) ∨ ∃ (c : Addr) (b' k' t' : Int), y = .ref c ∧ TrickAt Z H c b' k' t' ∧ Q (.bl (decide (b = b') && (decide (k = k') && decide (t = t')))) H)
theorem use_Trick_eq {H : Hp} {a c : Addr} {b k t b' k' t' : Int} {Q : VK} (ha : TrickAt Z H a b k t) (hc : TrickAt Z H c b' k' t') (h : Q (.bl (decide (b = b') && (decide (k = k') && decide (t = t')))) H) : rOwnE K Z.c_Trick (sp_Trick_eq K Z) (.ref a) (.ref c) H Q := by
  have ha2 := ha
  have hc2 := hc
  obtain ⟨_, dx, e⟩ := ha2
  obtain ⟨_, dy, e'⟩ := hc2
  exact ⟨a, dx, _, rfl, e, ⟨c, rfl, .inl ⟨dy, _, e'⟩⟩, a, b, k, t, .ref c, rfl, ha, .inr ⟨c, b', k', t', rfl, hc, ⟨_, rfl⟩, h⟩⟩
theorem use_Trick_neT {H : Hp} {a c : Addr} {b k t : Int} {xs : List V} {Q : VK} (ha : TrickAt Z H a b k t) (hc : H c = some (.tup xs)) (h : Q (.bl false) H) : rOwnE K Z.c_Trick (sp_Trick_eq K Z) (.ref a) (.ref c) H Q := by
  have ha2 := ha
  obtain ⟨_, dx, e⟩ := ha2
  exact ⟨a, dx, _, rfl, e, ⟨c, rfl, .inr ⟨xs, hc⟩⟩, a, b, k, t, .ref c, rfl, ha, .inl ⟨.inl (.tup hc), ⟨_, rfl⟩, h⟩⟩
theorem ok_Trick_eq (T : Txt K mg Z) : FnOk P w K mg base CX0 1 Z.f_Trick_eq Z.d_Trick_eq p_Trick_eq (sp_Trick_eq K Z) := by
  refine T.F_Trick_eq.ok sc_Trick_eq (fun vs H Q E h => ?_) (fun cdv A outer s H vs Q E hr h => ?_)
  · obtain ⟨_, _, _, _, _, rfl, _⟩ := h; rfl
  · obtain ⟨a, b, k, t, y, rfl, ha, h⟩ := h
    refine ⟨_, (pss_cons (ps_if (PW.pt (pw_or (pt_not (pt_val (pe_callB (r := rIsi K) call_isi (by rfl) T.n_isinstance boot_isinstance (pa_cons (pv 1) (pa_cons (pe_glob rfl T.g_Trick (v := .ref Z.c_Trick) rfl) pa_nil))))) (pw_or1 (pt_cmpR op_ne (pe_fld (pv 0) rfl) (pe_fld (pv 1) rfl) (nomark _))))) (pss_one (ps_ret pe_bl)) pss_nil)
    (pss_one (ps_ret (pe_and (pe_cmpR op_eq (pe_fld (pv 0) rfl) (pe_fld (pv 1) rfl) (nomark _)) (pe_one (pe_cmpR op_eq (pe_fld (pv 0) rfl) (pe_fld (pv 1) rfl) (nomark _))))))), ?_⟩
    rcases h with ⟨hy, h⟩ | ⟨c, b', k', t', rfl, hc, h⟩
    · walk_at "g"
      refine a_isiC T.ty_Trick hy ?_
      walk_at "g"
      exact h
    · have hc2 := hc
      obtain ⟨_, dx, h2⟩ := hc2
      walk_at "g"
      refine ⟨_, _, _, _, true, rfl, .own _, .base (.ins h2 T.is_Trick.cl T.is_Trick.ha T.is_Trick.hn T.is_Trick.htk T.is_Trick.hm), T.is_Trick.me, ?_⟩
      walk_at "g"
      refine a_ni2 (fun c1 => ?_) (fun c1 => ?_)
      · walk_at "g"
        refine a_it2 (fun c2 => ?_) (fun c2 => ?_)
        · walk_at "g"
          rw [decide_eq_true c1, decide_eq_true c2, Bool.true_and, Bool.true_and] at h
          exact h
        · rw [decide_eq_false c2] at h
          simp only [Bool.false_and, Bool.and_false] at h
          exact h
      · walk_at "g"
        rw [decide_eq_false c1] at h
        exact h

/-! ### need_trick -/
-- @NEEDS Trick_init
def sp_need_trick (Z : Adr) : Sp := fun vs H Q _ => ∃ (a : Addr) (b k t : Int), vs = [.ref a] ∧ TrickAt Z H a b k t ∧ Q .non H
theorem use_need_trick {a : Addr} {b k t : Int} {H : Hp} {Q : VK} {E : XK} (h1 : TrickAt Z H a b k t) (h : Q .non H) : sp_need_trick Z ([.ref a] ++ []) H Q E := ⟨a, b, k, t, rfl, h1, h⟩
theorem ok_need_trick (T : Txt K mg Z) : FnOk P w K mg base CX0 1 Z.f_need_trick Z.d_need_trick p_need_trick (sp_need_trick Z) := by
  refine T.F_need_trick.ok sc_need_trick (fun vs H Q E h => ?_) (fun cdv A outer s H vs Q E hr h => ?_)
  · obtain ⟨_, _, _, _, rfl, _⟩ := h; rfl
  · obtain ⟨a, b, k, t, rfl, ha, h⟩ := h
    refine ⟨_, (pss_one (ps_if (pt_not (pt_val (pe_callB (r := rIsi K) call_isi (by rfl) T.n_isinstance boot_isinstance (pa_cons (pv 0) (pa_cons (pe_glob rfl T.g_Trick (v := .ref Z.c_Trick) rfl) pa_nil))))) (pss_one ps_never) pss_nil)), ?_⟩
    walk_at "g"
    obtain ⟨_, dx, h2⟩ := ha
    refine ⟨_, _, _, _, true, rfl, .own _, .base (.ins h2 T.is_Trick.cl T.is_Trick.ha T.is_Trick.hn T.is_Trick.htk T.is_Trick.hm), T.is_Trick.me, ?_⟩
    walk_at "g"
    exact h
-- @USE
local macro_rules | `(tactic| walk_at "c") => `(tactic| ((with_reducible refine' use_need_trick ?k1 ?k2); (case k1 => walk_at "tr")))

/-! ### write -/
-- @NEEDS Trick_init need_trick
def txtS (b k t : Int) : Str := ((((((Str.empty ++ "base ") ++ numS b) ++ " take ") ++ numS k) ++ " times ") ++ numS t)
theorem a_js {t : TE} {ts : List TE} {acc : Str} {σ : L2.St} {H : Hp} {Q : Str → Hp → Prop} (h : t σ H fun x H1 => ∃ y : Str, x = .str y ∧ (acc ++ y).length ≤ sizeLine ∧ tJs ts (acc ++ y) σ H1 Q) : tJs (t :: ts) acc σ H Q := h
theorem a_js0 {acc : Str} {σ : L2.St} {H : Hp} {Q : Str → Hp → Prop} (h : Q acc H) : tJs [] acc σ H Q := h
theorem a_fmt {te : TE} {σ : L2.St} {H : Hp} {Q : VK} (h : te σ H fun x H1 => (∃ y : Str, x = .str y ∧ y.length ≤ sizeLine ∧ Q (.str y) H1) ∨ ∃ i : Int, x = .int i ∧ i.natAbs.log2 < 1920 ∧ Q (.str (toString i)) H1) : tFmt te σ H Q := h
theorem lit_len : ("base " : Str).length = 5 ∧ (" take " : Str).length = 6 ∧ (" times " : Str).length = 7 ∧ Str.empty.length = 0 := by decide +kernel
theorem len_app (a b : Str) : (a ++ b).length = a.length + b.length := PySem.Str.length_append a b
def sp_write (Z : Adr) : Sp := fun vs H Q _ => ∃ (a : Addr) (b k t : Int), vs = [.ref a] ∧ TrickAt Z H a b k t ∧ ∀ H', Same H H' → Q (.str (txtS b k t)) H'
theorem ok_write (T : Txt K mg Z) : FnOk P w K mg base CX0 2 Z.f_write Z.d_write p_write (sp_write Z) := by
  refine T.F_write.ok sc_write (fun vs H Q E h => ?_) (fun cdv A outer s H vs Q E hr h => ?_)
  · obtain ⟨_, _, _, _, rfl, _⟩ := h; rfl
  · obtain ⟨a, b, k, t, rfl, ha, h⟩ := h
    refine ⟨_, (pss_cons (ps_expr (pe_call (ok_need_trick T) (hr.mono (by decide)) rfl T.g_need_trick T.F_need_trick.kp T.b_need_trick .nil pass0 (pa_cons (pv 0) pa_nil)))
    (pss_one (ps_ret (pe_joined (PJ.cons pe_str (PJ.cons (pe_fmt (pe_fld (pv 0) rfl)) (PJ.cons pe_str (PJ.cons (pe_fmt (pe_fld (pv 0) rfl)) (PJ.cons pe_str (PJ.cons (pe_fmt (pe_fld (pv 0) rfl)) PJ.nil)))))))))), ?_⟩
    have hb := ha.1.1
    have hk := ha.1.2.1
    have ht := ha.1.2.2
    have nb := (num_all (n := b) (by omega) (by omega)).1.len
    have nk := (num_all (n := k) (by omega) (by omega)).1.len
    have nt := (num_all (n := t) (by omega) (by omega)).1.len
    obtain ⟨z1, z2, z3, z4⟩ := lit_len
    walk_at "g"
    refine a_js ?_
    walk_at "g"
    refine ⟨_, rfl, by rw [sizeLine_eq]; simp only [len_app]; omega, ?_⟩
    refine a_js (a_fmt ?_)
    walk_at "g"
    refine .inr ⟨b, rfl, log_small (by omega) (by omega), _, rfl, by rw [sizeLine_eq]; show (_ ++ numS b).length ≤ _; simp only [len_app]; omega, ?_⟩
    refine a_js ?_
    walk_at "g"
    refine ⟨_, rfl, by rw [sizeLine_eq]; show (_ ++ numS b ++ _).length ≤ _; simp only [len_app]; omega, ?_⟩
    refine a_js (a_fmt ?_)
    walk_at "g"
    refine .inr ⟨k, rfl, log_small (by omega) (by omega), _, rfl, by rw [sizeLine_eq]; show (_ ++ numS b ++ _ ++ numS k).length ≤ _; simp only [len_app]; omega, ?_⟩
    refine a_js ?_
    walk_at "g"
    refine ⟨_, rfl, by rw [sizeLine_eq]; show (_ ++ numS b ++ _ ++ numS k ++ _).length ≤ _; simp only [len_app]; omega, ?_⟩
    refine a_js (a_fmt ?_)
    walk_at "g"
    refine .inr ⟨t, rfl, log_small (by omega) (by omega), _, rfl, by rw [sizeLine_eq]; show (_ ++ numS b ++ _ ++ numS k ++ _ ++ numS t).length ≤ _; simp only [len_app]; omega, ?_⟩
    refine a_js0 ?_
    exact h _ (Same.refl H)

/-! ### number_in -/
theorem nums_snoc (lo : Int) (i : Nat) : (numsL lo (i + 1)).map V.str = (numsL lo i).map V.str ++ [.str (numS (lo + (i : Int)))] := by
  unfold numsL
  rw [List.range_succ, List.map_append, List.map_append]; rfl
theorem nums_len (lo : Int) (i : Nat) : (numsL lo i).length = i := by unfold numsL; rw [List.length_map, List.length_range]
def sp_number_in (K : Frag) : Sp := fun vs H Q _ => ∃ (p : Addr) (ws : List Str) (k : Nat) (lo hi n : Int), vs = [.ref p, .int (k : Int), .int lo, .int hi] ∧ H p = some (.lst (ws.map V.str)) ∧ ws[k]? = some (numS n) ∧ (lo ≤ n ∧ n ≤ hi) ∧ -100 ≤ lo ∧ hi ≤ 100 ∧ ∀ H', Same H H' → Q (.int n) H'
theorem ok_number_in (T : Txt K mg Z) : FnOk P w K mg base CX0 1 Z.f_number_in Z.d_number_in p_number_in (sp_number_in K) := by
  refine T.F_number_in.ok sc_number_in (fun vs H Q E h => ?_) (fun cdv A outer s H vs Q E hr h => ?_)
  · obtain ⟨_, _, _, _, _, _, rfl, _⟩ := h; rfl
  · obtain ⟨p, ws, k, lo, hi, n, rfl, hp, hk, hn, h1, h2, h⟩ := h
    have O := Own.refl H
    have l := (List.getElem?_eq_some_iff.mp hk).1
    have hv : (ws.map V.str)[k]? = some (.str (numS n)) := by rw [List.getElem?_map, hk]; rfl
    refine ⟨_, (pss_cons (ps_if (PW.pt (pw_or (pt_cmpR op_ge (pv 1) (pe_callB (r := R.rLen K) call_lenR (by rfl) T.n_len boot_len (pa_cons (pv 0) pa_nil)) (nomark _)) (pw_or1 (pt_cmpR (r := rIn K true) op_notIn_seq (pe_ix (r := rIxL K) ix_list (pv 0) (pv 1) (fun _ _ => rfl)) (pe_lc (own := [("number", 4)]) (tt := tYes) rfl sc_number_in.nd (pi_range2 rfl T.n_range (pa_cons (pv 2) (pa_cons (pe_op op_add (pv 3) pe_int) pa_nil))) (blkOk_by (N := N_number_in) (sc := defScope s_number_in) (by decide +kernel)) (fun _ _ _ _ _ => (pg_name (i := 4) sc_number_in.nd rfl (Or.inl rfl))) (fun _ _ _ _ _ => pts_nil) (fun _ _ _ _ _ => (pe_callTy call_str_int (by rfl) T.n_str boot_str (pa_cons (pv 4) pa_nil)))) (by rfl))))) (pss_one ps_never) pss_nil)
    (pss_one (ps_ret (pe_callTy call_int_str (by rfl) T.n_int boot_int (pa_cons (pe_ix (r := rIxL K) ix_list (pv 0) (pv 1) (fun _ _ => rfl)) pa_nil))))), ?_⟩
    walk_at "g"
    refine a_len (.inl (SqL.of hp)) ?_
    rw [List.length_map]
    walk_at "g"
    refine a_ixL (SqL.of hp) (atI_nat hv) ?_
    walk_at "g"
    intro D hD
    replace O := Own.new (o := .lst []) O hD
    refine lc_range (fun i H' => Own H [(D, .lst ((numsL lo i).map V.str))] H') O ?_ ?_
    · clear O
      rintro i H' hi' O
      walk_at "g"
      refine ⟨rfl, ?_⟩
      walk_at "g"
      refine ⟨_, rfl, log_small (by omega) (by omega), ?_⟩
      refine ⟨_, O.get 0 rfl, Nat.lt_of_lt_of_le (show _ < 1000 by rw [List.length_map, nums_len]; omega) (by decide), ?_⟩
      rw [nums_snoc]
      exact O.put 0 rfl
    · clear O
      rintro H' O
      walk_at "g"
      refine a_notInS (Own.sq O 0 rfl) ?_
      rw [decide_eq_true (mem_nums.mpr ⟨n, hn.1, by omega, rfl⟩)]
      walk_at "g"
      refine a_ixL (SqL.of (O.st _ _ hp)) (atI_nat hv) ?_
      walk_at "g"
      refine ⟨_, n, rfl, (num_all (by omega) (by omega)).2, Nat.le_trans (num_all (n := n) (by omega) (by omega)).1.len (by decide), ?_⟩
      walk_at "g"
      exact h _ O.st

/-! ### number_in_x -/
-- @NEEDS number_in
def sp_x_number_in (K : Frag) (Z : Adr) : Sp := fun vs H _ E => ∃ (p : Addr) (ws : List Str) (k : Nat) (lo hi : Int), vs = [.ref p, .int (k : Int), .int lo, .int hi] ∧ H p = some (.lst (ws.map V.str)) ∧ (∀ z, ws[k]? = some z → z ∉ numsL lo (hi + 1 - lo).toNat) ∧ k ≤ 10 ∧ lo ≤ hi ∧ -100 ≤ lo ∧ hi ≤ 100 ∧ ∀ d H1, Same H H1 → H1 d = none → E (.ref Z.c_InvalidText) (some d) (upd H1 d (.xd [("word", .int ((k : Int) + 1))]))
theorem okX_number_in (T : Txt K mg Z) : FnOk P w K mg base (L2.CX P w) 3 Z.f_number_in Z.d_number_in p_number_in (sp_x_number_in K Z) := by
  refine T.F_number_in.okX sc_number_in (fun vs H Q E h => ?_) (fun cdv A outer s H vs Q E hr h => ?_)
  · obtain ⟨_, _, _, _, _, rfl, _⟩ := h; rfl
  · obtain ⟨p, ws, k, lo, hi, rfl, hp, hk, k10, h0, h1, h2, h⟩ := h
    have O := Own.refl H
    refine ⟨_, (pss_cons (ps_if (PW.pt (pw_or (pt_cmpR op_ge (pv 1) (pe_callB (r := R.rLen K) call_lenR (by rfl) T.n_len boot_len (pa_cons (pv 0) pa_nil)) (nomark _)) (pw_or1 (pt_cmpR (r := rIn K true) op_notIn_seq (pe_ix (r := rIxL K) ix_list (pv 0) (pv 1) (fun _ _ => rfl)) (pe_lc (own := [("number", 4)]) (tt := tYes) rfl sc_number_in.nd (pi_range2 rfl T.n_range (pa_cons (pv 2) (pa_cons (pe_op op_add (pv 3) pe_int) pa_nil))) (blkOk_by (N := N_number_in) (sc := defScope s_number_in) (by decide +kernel)) (fun _ _ _ _ _ => (pg_name (i := 4) sc_number_in.nd rfl (Or.inl rfl))) (fun _ _ _ _ _ => pts_nil) (fun _ _ _ _ _ => (pe_callTy call_str_int (by rfl) T.n_str boot_str (pa_cons (pv 4) pa_nil)))) (by rfl))))) (pss_one (ps_raise1 rfl (takes_of rfl rfl rfl rfl) T.ox_InvalidText T.ix_InvalidText T.tx_InvalidText (ok_InvalidText_init T) (hr.mono (by decide)) T.b_InvalidText_init rfl T.g_InvalidText (pa_cons (pe_op op_add (pv 1) pe_int) pa_nil))) pss_nil)
    pss_never), ?_⟩
    walk_at "g"
    refine a_len (.inl (SqL.of hp)) ?_
    rw [List.length_map]
    walk_at "g"
    refine a_it2 (fun c => ?_) (fun c => ?_)
    · walk_at "g"
      exact fun d hd => h d _ O.st hd
    · have l : k < ws.length := by omega
      have e : ws[k]? = some ws[k] := List.getElem?_eq_getElem l
      have hv : (ws.map V.str)[k]? = some (.str ws[k]) := by rw [List.getElem?_map, e]; rfl
      walk_at "g"
      refine a_ixL (SqL.of hp) (atI_nat hv) ?_
      walk_at "g"
      intro D hD
      replace O := Own.new (o := .lst []) O hD
      refine lc_range (fun i H' => Own H [(D, .lst ((numsL lo i).map V.str))] H') O ?_ ?_
      · clear O
        rintro i H' hi' O
        walk_at "g"
        refine ⟨rfl, ?_⟩
        walk_at "g"
        refine ⟨_, rfl, log_small (by omega) (by omega), ?_⟩
        refine ⟨_, O.get 0 rfl, Nat.lt_of_lt_of_le (show _ < 1000 by rw [List.length_map, nums_len]; omega) (by decide), ?_⟩
        rw [nums_snoc]
        exact O.put 0 rfl
      · clear O
        rintro H' O
        walk_at "g"
        refine a_notInS (Own.sq O 0 rfl) ?_
        rw [decide_eq_false (hk _ e)]
        walk_at "g"
        exact fun d hd => h d _ O.st hd

/-! ### need_word -/
theorem cut_one {xs : List V} {k : Nat} {v : V} (h : xs[k]? = some v) : cutV xs (some ((k : Nat) : Int)) (some ((k : Int) + 1)) = [v] := by
  have l := (List.getElem?_eq_some_iff.mp h).1
  unfold cutV
  rw [HT.sIx_nat, show ((k : Int) + 1) = ((k + 1 : Nat) : Int) by omega, HT.sIx_nat]
  rw [Nat.min_eq_left (by omega), Nat.min_eq_left (by omega), show k + 1 - k = 1 by omega, List.drop_eq_getElem_cons l]
  rw [(List.getElem?_eq_some_iff.mp h).2]
  rfl
theorem cut_none {xs : List V} {k : Nat} (h : xs.length ≤ k) : cutV xs (some ((k : Nat) : Int)) (some ((k : Int) + 1)) = [] := by
  unfold cutV
  rw [HT.sIx_nat, show ((k : Int) + 1) = ((k + 1 : Nat) : Int) by omega, HT.sIx_nat]
  rw [Nat.min_eq_right h, Nat.min_eq_right (by omega), Nat.sub_self, List.take_zero]
theorem dp_strL {K : Frag} {H : Hp} {p : Addr} {l : List Str} (h : SqL K H p (l.map V.str)) : Dp K H (.ref p) (.list (l.map PyData.str)) := .lst h (dp_strs l)
def sp_need_word (K : Frag) : Sp := fun vs H Q _ => ∃ (p : Addr) (z : Str) (ws : List Str) (k : Nat), vs = [.ref p, .int (k : Int), .str z] ∧ H p = some (.lst (ws.map V.str)) ∧ ws[k]? = some z ∧ WordOk z ∧ ∀ H', Same H H' → Q .non H'
theorem ok_need_word (T : Txt K mg Z) : FnOk P w K mg base CX0 1 Z.f_need_word Z.d_need_word p_need_word (sp_need_word K) := by
  refine T.F_need_word.ok sc_need_word (fun vs H Q E h => ?_) (fun cdv A outer s H vs Q E hr h => ?_)
  · obtain ⟨_, _, _, _, rfl, _⟩ := h; rfl
  · obtain ⟨p, z, ws, k, rfl, hp, hk, hz, h⟩ := h
    have O := Own.refl H
    refine ⟨_, (pss_one (ps_if (pt_cmpR (r := rNeD K) (op_neD hr.units) (pe_slice (r := rSlL K) sl_list (pv 0) (po_some (pv 1)) (po_some (pe_op op_add (pv 1) pe_int))) (pe_lst (pa_cons (pv 2) pa_nil)) (nomark _)) (pss_one ps_never) pss_nil)), ?_⟩
    walk_at "g"
    refine a_slLV O (SqL.of hp) (fun l1 H1 hl1 O => ?_)
    rw [cut_one (v := .str z) (by rw [List.getElem?_map, hk]; rfl)] at O
    walk_at "g"; walk_at "mkL"; intro l2 H2 hl2 O
    walk_at "g"
    refine a_neD (dp_strL (l := [z]) (Own.sq O 1 rfl)) (dp_strL (l := [z]) (Own.sq O 0 rfl)) (can_strs fun x hx => by rw [List.mem_singleton.mp hx]; exact hz.ok) (dep_strs _) ?_
    walk_at "g"
    exact h _ O.st

/-! ### need_word_x -/
-- @NEEDS need_word
def sp_x_need_word (K : Frag) (Z : Adr) : Sp := fun vs H _ E => ∃ (p : Addr) (z : Str) (ws : List Str) (k : Nat), vs = [.ref p, .int (k : Int), .str z] ∧ H p = some (.lst (ws.map V.str)) ∧ (∀ y, ws[k]? = some y → y ≠ z) ∧ WordOk z ∧ (∀ w ∈ ws, WordOk w) ∧ k ≤ 10 ∧ ∀ d H1, Same H H1 → H1 d = none → E (.ref Z.c_InvalidText) (some d) (upd H1 d (.xd [("word", .int ((k : Int) + 1))]))
theorem okX_need_word (T : Txt K mg Z) : FnOk P w K mg base (L2.CX P w) 3 Z.f_need_word Z.d_need_word p_need_word (sp_x_need_word K Z) := by
  refine T.F_need_word.okX sc_need_word (fun vs H Q E h => ?_) (fun cdv A outer s H vs Q E hr h => ?_)
  · obtain ⟨_, _, _, _, rfl, _⟩ := h; rfl
  · obtain ⟨p, z, ws, k, rfl, hp, hk, hz, hws, k10, h⟩ := h
    have O := Own.refl H
    refine ⟨_, (pss_one (ps_if (pt_cmpR (r := rNeD K) (op_neD hr.units) (pe_slice (r := rSlL K) sl_list (pv 0) (po_some (pv 1)) (po_some (pe_op op_add (pv 1) pe_int))) (pe_lst (pa_cons (pv 2) pa_nil)) (nomark _)) (pss_one (ps_raise1 rfl (takes_of rfl rfl rfl rfl) T.ox_InvalidText T.ix_InvalidText T.tx_InvalidText (ok_InvalidText_init T) (hr.mono (by decide)) T.b_InvalidText_init rfl T.g_InvalidText (pa_cons (pe_op op_add (pv 1) pe_int) pa_nil))) pss_nil)), ?_⟩
    walk_at "g"
    refine a_slLV O (SqL.of hp) (fun l1 H1 hl1 O => ?_)
    have cz : (PyData.list ([z].map PyData.str)).canLay0 = true := can_strs fun x hx => by rw [List.mem_singleton.mp hx]; exact hz.ok
    by_cases l : k < ws.length
    · have e : ws[k]? = some ws[k] := List.getElem?_eq_getElem l
      have ne := hk _ e
      have oy := (hws _ (List.mem_of_getElem? e)).ok
      rw [cut_one (v := .str ws[k]) (by rw [List.getElem?_map, e]; rfl)] at O
      generalize ws[k] = y at *
      walk_at "g"; walk_at "mkL"; intro l2 H2 hl2 O
      walk_at "g"
      refine a_neD' (dp_strL (l := [y]) (Own.sq O 1 rfl)) (dp_strL (l := [z]) (Own.sq O 0 rfl)) (can_strs fun x hx => by rw [List.mem_singleton.mp hx]; exact oy) (dep_strs _) cz (dep_strs _) ?_ ?_
      · show ((y == z) && true) = false
        rw [Bool.and_true, beq_eq_false_iff_ne]; exact ne
      · walk_at "g"
        exact fun d hd => h d _ O.st hd
    · rw [cut_none (by rw [List.length_map]; omega)] at O
      walk_at "g"; walk_at "mkL"; intro l2 H2 hl2 O
      walk_at "g"
      refine a_neD' (dp_strL (l := []) (Own.sq O 1 rfl)) (dp_strL (l := [z]) (Own.sq O 0 rfl)) (can_strs fun x hx => by cases hx) (dep_strs _) cz (dep_strs _) rfl ?_
      walk_at "g"
      exact fun d hd => h d _ O.st hd

/-! ### read -/
-- @NEEDS need_word number_in Trick_init
theorem take_filter {α : Type} {p : α → Bool} {l : List α} {i : Nat} {y : α} (h : l[i]? = some y) : (l.take (i + 1)).filter p = (l.take i).filter p ++ (if p y = true then [y] else []) := by
  rw [List.take_add_one, h, List.filter_append]
  show _ ++ List.filter p [y] = _
  rw [List.filter_cons, List.filter_nil]
theorem cut_len : ∀ l : List Nat, (cut32 l).length ≤ l.length + 1
  | [] => Nat.le_refl 1
  | c :: l => by
    have ih := cut_len l
    unfold cut32
    split
    · rw [List.length_cons, List.length_cons]; omega
    · cases h : cut32 l with
      | nil => exact absurd h (cut_ne l)
      | cons w r =>
        rw [h, List.length_cons] at ih
        rw [List.length_cons, List.length_cons]; omega
theorem split_len (x : Str) : (Txt.split x sp1).length ≤ x.length + 1 := by
  rw [sp1_eq]
  have e := congrArg List.length (split_cut x)
  rw [List.length_map] at e
  rw [e]
  exact cut_len (cp x)
theorem base_ok : WordOk "base" ∧ WordOk "take" ∧ WordOk "times" := ⟨word_by' (by decide +kernel), word_by' (by decide +kernel), word_by' (by decide +kernel)⟩
def sp_read (Z : Adr) : Sp := fun vs H Q _ => ∃ (x : Str) (b k t : Int), vs = [.str x] ∧ wdsS x = goodWs b k t ∧ (2 ≤ b ∧ b ≤ 16) ∧ (1 ≤ k ∧ k ≤ 2) ∧ (-100 ≤ t ∧ t ≤ 100) ∧ x.length ≤ 100000 ∧ ∀ r H', Same H H' → TrickAt Z H' r b k t → Q (.ref r) H'
theorem ok_read (T : Txt K mg Z) : FnOk P w K mg base CX0 5 Z.f_read Z.d_read p_read (sp_read Z) := by
  refine T.F_read.ok sc_read (fun vs H Q E h => ?_) (fun cdv A outer s H vs Q E hr h => ?_)
  · obtain ⟨_, _, _, _, rfl, _⟩ := h; rfl
  · obtain ⟨x, b, k, t, rfl, hws, hb, hk, ht, hx, h⟩ := h
    have O := Own.refl H
    have sl := split_len x
    have w0 : wdsS x = goodWs b k t := hws
    obtain ⟨ws, ew⟩ : ∃ ws, ws = goodWs b k t := ⟨_, rfl⟩
    rw [← ew] at hws
    unfold wdsS at hws
    refine ⟨_, (pss_cons (ps_setLc (i := 1) rfl sc_read.nd rfl rfl (sw_true rfl rfl rfl (by decide +kernel)) (own := [("word", 5)]) (pi_list (pe_bm PySem.F.plainAttrs_str PySem.F.slot_str_split PySem.F.type_str_split mt_split (pv 0) (pa_cons pe_str pa_nil))) (blkOk_by (N := N_read) (sc := defScope s_read) (by decide +kernel)) (fun _ _ _ _ _ => (pg_name (i := 5) sc_read.nd rfl (Or.inl rfl))) (fun _ _ _ _ _ => (pts_one (pt_cmpR op_ne (pv 5) pe_str (nomark _)))) (fun _ _ _ _ _ => (pv 5)))
    (pss_cons (ps_expr (pe_call (ok_need_word T) (hr.mono (by decide)) rfl T.g_need_word T.F_need_word.kp T.b_need_word .nil pass0 (pa_cons (pv 1) (pa_cons pe_int (pa_cons pe_str pa_nil)))))
    (pss_cons (ps_set (i := 2) sc_read.nd rfl (Or.inl rfl) (pe_call (ok_number_in T) (hr.mono (by decide)) rfl T.g_number_in T.F_number_in.kp T.b_number_in .nil pass0 (pa_cons (pv 1) (pa_cons pe_int (pa_cons (pe_globI rfl T.v_LEAST_BASE) (pa_cons (pe_globI rfl T.v_MOST_BASE) pa_nil))))))
    (pss_cons (ps_expr (pe_call (ok_need_word T) (hr.mono (by decide)) rfl T.g_need_word T.F_need_word.kp T.b_need_word .nil pass0 (pa_cons (pv 1) (pa_cons pe_int (pa_cons pe_str pa_nil)))))
    (pss_cons (ps_set (i := 3) sc_read.nd rfl (Or.inl rfl) (pe_call (ok_number_in T) (hr.mono (by decide)) rfl T.g_number_in T.F_number_in.kp T.b_number_in .nil pass0 (pa_cons (pv 1) (pa_cons pe_int (pa_cons pe_int (pa_cons (pe_globI rfl T.v_MOST_TAKE) pa_nil))))))
    (pss_cons (ps_expr (pe_call (ok_need_word T) (hr.mono (by decide)) rfl T.g_need_word T.F_need_word.kp T.b_need_word .nil pass0 (pa_cons (pv 1) (pa_cons pe_int (pa_cons pe_str pa_nil)))))
    (pss_cons (ps_set (i := 4) sc_read.nd rfl (Or.inl rfl) (pe_call (ok_number_in T) (hr.mono (by decide)) rfl T.g_number_in T.F_number_in.kp T.b_number_in .nil pass0 (pa_cons (pv 1) (pa_cons pe_int (pa_cons (pe_un un_neg (pe_globI rfl T.v_MOST_TIMES)) (pa_cons (pe_globI rfl T.v_MOST_TIMES) pa_nil))))))
    (pss_cons (ps_if (pt_cmpR op_gt (pe_callB (r := R.rLen K) call_lenR (by rfl) T.n_len boot_len (pa_cons (pv 1) pa_nil)) pe_int (nomark _)) (pss_one ps_never) pss_nil)
    (pss_one (ps_ret (pe_make T.M_Trick (ok_Trick_init T) (hr.mono (by decide)) rfl T.g_Trick T.b_Trick_init .nil pass0 (pa_cons (pv 2) (pa_cons (pv 3) (pa_cons (pv 4) pa_nil)))))))))))))), ?_⟩
    walk_at "g"
    refine ⟨rfl, ?_⟩
    walk_at "g"
    refine ⟨_, _, rfl, rfl, rfl, by rw [sizeLine_eq]; omega, fun q hq => ?_⟩
    replace O := Own.new (o := .lst ((Txt.split x sp1).map V.str)) O hq
    refine ⟨q, rfl, ⟨_, Own.sq O 0 rfl⟩, fun D hD => ?_⟩
    replace O := Own.new (o := .lst []) O hD
    refine lc_list (xs := (Txt.split x sp1).map V.str) (fun i H' => Own H [(D, .lst ((((Txt.split x sp1).take i).filter fun y => !decide (V.str y = V.str "")).map V.str)), (q, .lst ((Txt.split x sp1).map V.str))] H') O (fun i H' _ O => Own.sq O 1 rfl) ?_ ?_
    · clear O
      rintro i v H' hi O
      rw [List.getElem?_map] at hi
      obtain ⟨y, hy, rfl⟩ := Option.map_eq_some_iff.mp hi
      have il := (List.getElem?_eq_some_iff.mp hy).1
      have fl := List.length_filter_le (fun y : Str => !decide (V.str y = V.str "")) ((Txt.split x sp1).take i)
      rw [List.length_take] at fl
      walk_at "g"
      refine ⟨rfl, ?_⟩
      walk_at "g"
      refine ⟨rfl, ?_⟩
      rw [take_filter hy]
      cases c : !decide (V.str y = V.str "") with
      | true =>
        walk_at "g"
        refine ⟨_, O.get 0 rfl, Nat.lt_of_lt_of_le (show _ < 200000 by rw [List.length_map]; omega) (by decide), ?_⟩
        rw [if_pos rfl, List.map_append]
        exact O.put 0 rfl
      | false =>
        walk_at "g"
        rw [if_neg (by decide), List.append_nil]
        exact O
    clear O
    rintro H' O
    rw [List.length_map, List.take_length] at O
    replace O : Own H [(D, .lst (ws.map V.str)), (q, .lst ((Txt.split x sp1).map V.str))] H' := by rw [← hws]; exact O
    walk_at "g"
    subst ew
    refine ⟨D, "base", goodWs b k t, 0, rfl, O.get 0 rfl, rfl, base_ok.1, fun H1 s1 => ?_⟩
    replace O := O.same s1
    walk_at "g"
    refine ⟨D, goodWs b k t, 1, 2, 16, b, rfl, O.get 0 rfl, rfl, hb, by omega, by omega, fun H2 s2 => ?_⟩
    replace O := O.same s2
    walk_at "g"
    refine ⟨D, "take", goodWs b k t, 2, rfl, O.get 0 rfl, rfl, base_ok.2.1, fun H3 s3 => ?_⟩
    replace O := O.same s3
    walk_at "g"
    refine ⟨D, goodWs b k t, 3, 1, 2, k, rfl, O.get 0 rfl, rfl, hk, by omega, by omega, fun H4 s4 => ?_⟩
    replace O := O.same s4
    walk_at "g"
    refine ⟨D, "times", goodWs b k t, 4, rfl, O.get 0 rfl, rfl, base_ok.2.2, fun H5 s5 => ?_⟩
    replace O := O.same s5
    walk_at "g"
    refine ⟨D, goodWs b k t, 5, -100, 100, t, rfl, O.get 0 rfl, rfl, ht, by omega, by omega, fun H6 s6 => ?_⟩
    replace O := O.same s6
    walk_at "g"
    rw [List.length_map, show (goodWs b k t).length = 6 from rfl]
    walk_at "g"
    refine use_Trick O ⟨hb, hk, ht⟩ (fun r B H7 hr7 sB O ha => ?_)
    exact h r H7 (sB.trans O.st) (ha.up O)

/-! ### read_x -/
-- @NEEDS read need_word number_in need_word_x number_in_x Trick_init
theorem right_w {ws : List Str} {k : Nat} {w : Str} (h : wrongAt1 ws k = false) (e : lots.getD k [] = [w]) : ws[k]? = some w := by
  obtain ⟨z, ez, m⟩ := right_at h
  rw [e, List.mem_singleton] at m
  rw [ez, m]
theorem right_n {ws : List Str} {k n : Nat} {lo : Int} (h : wrongAt1 ws k = false) (e : lots.getD k [] = numsL lo n) : ∃ m : Int, ws[k]? = some (numS m) ∧ (lo ≤ m ∧ m < lo + n) := by
  obtain ⟨z, ez, m⟩ := right_at h
  rw [e] at m
  obtain ⟨y, h1, h2, rfl⟩ := mem_nums.mp m
  exact ⟨y, ez, h1, h2⟩
def sp_x_read (K : Frag) (Z : Adr) : Sp := fun vs H Q E => ∃ (x : Str) (ws : List Str), vs = [.str x] ∧ wdsS x = ws ∧ (∀ w ∈ ws, WordOk w) ∧ x.length ≤ 100000 ∧
  ((∃ k : Nat, wrongW ws = some k ∧ ∀ d H1, Same H H1 → H1 d = none → E (.ref Z.c_InvalidText) (some d) (upd H1 d (.xd [("word", .int (k : Int))]))) ∨ (wrongW ws = none ∧ ∀ r H', Same H H' → Q (.ref r) H'))
theorem okX_read (T : Txt K mg Z) : FnOk P w K mg base (L2.CX P w) 5 Z.f_read Z.d_read p_read (sp_x_read K Z) := by
  refine T.F_read.okX sc_read (fun vs H Q E h => ?_) (fun cdv A outer s H vs Q E hr h => ?_)
  · obtain ⟨_, _, rfl, _⟩ := h; rfl
  · obtain ⟨x, ws, rfl, hws, hok, hx, h⟩ := h
    have O := Own.refl H
    have sl := split_len x
    unfold wdsS at hws
    rcases h with ⟨kk, hk, h⟩ | ⟨hk, h⟩
    · unfold wrongW at hk
      by_cases c0 : wrongAt1 ws 0 = true
      · rw [if_pos c0] at hk
        obtain rfl := (Option.some.inj hk).symm
        refine ⟨_, (pss_cons (ps_setLc (i := 1) rfl sc_read.nd rfl rfl (sw_true rfl rfl rfl (by decide +kernel)) (own := [("word", 5)]) (pi_list (pe_bm PySem.F.plainAttrs_str PySem.F.slot_str_split PySem.F.type_str_split mt_split (pv 0) (pa_cons pe_str pa_nil))) (blkOk_by (N := N_read) (sc := defScope s_read) (by decide +kernel)) (fun _ _ _ _ _ => (pg_name (i := 5) sc_read.nd rfl (Or.inl rfl))) (fun _ _ _ _ _ => (pts_one (pt_cmpR op_ne (pv 5) pe_str (nomark _)))) (fun _ _ _ _ _ => (pv 5)))
    (pss_cons (ps_expr (pe_call (okX_need_word T) (hr.mono (by decide)) rfl T.g_need_word T.F_need_word.kp T.b_need_word .nil (passes_call (takes_of rfl rfl rfl rfl) (fun _ _ _ _ h => h)) (pa_cons (pv 1) (pa_cons pe_int (pa_cons pe_str pa_nil)))))
    pss_never)), ?_⟩
        walk_at "g"
        refine ⟨rfl, ?_⟩
        walk_at "g"
        refine ⟨_, _, rfl, rfl, rfl, by rw [sizeLine_eq]; omega, fun q hq => ?_⟩
        replace O := Own.new (o := .lst ((Txt.split x sp1).map V.str)) O hq
        refine ⟨q, rfl, ⟨_, Own.sq O 0 rfl⟩, fun D hD => ?_⟩
        replace O := Own.new (o := .lst []) O hD
        refine lc_list (xs := (Txt.split x sp1).map V.str) (fun i H' => Own H [(D, .lst ((((Txt.split x sp1).take i).filter fun y => !decide (V.str y = V.str "")).map V.str)), (q, .lst ((Txt.split x sp1).map V.str))] H') O (fun i H' _ O => Own.sq O 1 rfl) ?_ ?_
        · clear O
          rintro i v H' hi O
          rw [List.getElem?_map] at hi
          obtain ⟨y, hy, rfl⟩ := Option.map_eq_some_iff.mp hi
          have il := (List.getElem?_eq_some_iff.mp hy).1
          have fl := List.length_filter_le (fun y : Str => !decide (V.str y = V.str "")) ((Txt.split x sp1).take i)
          rw [List.length_take] at fl
          walk_at "g"
          refine ⟨rfl, ?_⟩
          walk_at "g"
          refine ⟨rfl, ?_⟩
          rw [take_filter hy]
          cases c : !decide (V.str y = V.str "") with
          | true =>
            walk_at "g"
            refine ⟨_, O.get 0 rfl, Nat.lt_of_lt_of_le (show _ < 200000 by rw [List.length_map]; omega) (by decide), ?_⟩
            rw [if_pos rfl, List.map_append]
            exact O.put 0 rfl
          | false =>
            walk_at "g"
            rw [if_neg (by decide), List.append_nil]
            exact O
        clear O
        rintro H' O
        rw [List.length_map, List.take_length] at O
        replace O : Own H [(D, .lst (ws.map V.str)), (q, .lst ((Txt.split x sp1).map V.str))] H' := by rw [← hws]; exact O
        walk_at "g"
        exact ⟨D, "base", ws, 0, rfl, O.get 0 rfl, fun y e z => wrong_at c0 y e (by show y ∈ (["base"] : List Str); rw [z]; exact List.mem_cons_self), base_ok.1, hok, by omega, fun d H1 s1 hd => h d H1 (O.same s1).st hd⟩
      rw [if_neg c0] at hk
      replace c0 := Bool.eq_false_iff.mpr c0
      have g0 := right_w (w := "base") c0 rfl
      by_cases c1 : wrongAt1 ws 1 = true
      · rw [if_pos c1] at hk
        obtain rfl := (Option.some.inj hk).symm
        refine ⟨_, (pss_cons (ps_setLc (i := 1) rfl sc_read.nd rfl rfl (sw_true rfl rfl rfl (by decide +kernel)) (own := [("word", 5)]) (pi_list (pe_bm PySem.F.plainAttrs_str PySem.F.slot_str_split PySem.F.type_str_split mt_split (pv 0) (pa_cons pe_str pa_nil))) (blkOk_by (N := N_read) (sc := defScope s_read) (by decide +kernel)) (fun _ _ _ _ _ => (pg_name (i := 5) sc_read.nd rfl (Or.inl rfl))) (fun _ _ _ _ _ => (pts_one (pt_cmpR op_ne (pv 5) pe_str (nomark _)))) (fun _ _ _ _ _ => (pv 5)))
    (pss_cons (ps_expr (pe_call (ok_need_word T) (hr.mono (by decide)) rfl T.g_need_word T.F_need_word.kp T.b_need_word .nil pass0 (pa_cons (pv 1) (pa_cons pe_int (pa_cons pe_str pa_nil)))))
    (pss_cons (ps_set (i := 2) sc_read.nd rfl (Or.inl rfl) (pe_call (okX_number_in T) (hr.mono (by decide)) rfl T.g_number_in T.F_number_in.kp T.b_number_in .nil (passes_call (takes_of rfl rfl rfl rfl) (fun _ _ _ _ h => h)) (pa_cons (pv 1) (pa_cons pe_int (pa_cons (pe_globI rfl T.v_LEAST_BASE) (pa_cons (pe_globI rfl T.v_MOST_BASE) pa_nil))))))
    pss_never))), ?_⟩
        walk_at "g"
        refine ⟨rfl, ?_⟩
        walk_at "g"
        refine ⟨_, _, rfl, rfl, rfl, by rw [sizeLine_eq]; omega, fun q hq => ?_⟩
        replace O := Own.new (o := .lst ((Txt.split x sp1).map V.str)) O hq
        refine ⟨q, rfl, ⟨_, Own.sq O 0 rfl⟩, fun D hD => ?_⟩
        replace O := Own.new (o := .lst []) O hD
        refine lc_list (xs := (Txt.split x sp1).map V.str) (fun i H' => Own H [(D, .lst ((((Txt.split x sp1).take i).filter fun y => !decide (V.str y = V.str "")).map V.str)), (q, .lst ((Txt.split x sp1).map V.str))] H') O (fun i H' _ O => Own.sq O 1 rfl) ?_ ?_
        · clear O
          rintro i v H' hi O
          rw [List.getElem?_map] at hi
          obtain ⟨y, hy, rfl⟩ := Option.map_eq_some_iff.mp hi
          have il := (List.getElem?_eq_some_iff.mp hy).1
          have fl := List.length_filter_le (fun y : Str => !decide (V.str y = V.str "")) ((Txt.split x sp1).take i)
          rw [List.length_take] at fl
          walk_at "g"
          refine ⟨rfl, ?_⟩
          walk_at "g"
          refine ⟨rfl, ?_⟩
          rw [take_filter hy]
          cases c : !decide (V.str y = V.str "") with
          | true =>
            walk_at "g"
            refine ⟨_, O.get 0 rfl, Nat.lt_of_lt_of_le (show _ < 200000 by rw [List.length_map]; omega) (by decide), ?_⟩
            rw [if_pos rfl, List.map_append]
            exact O.put 0 rfl
          | false =>
            walk_at "g"
            rw [if_neg (by decide), List.append_nil]
            exact O
        clear O
        rintro H' O
        rw [List.length_map, List.take_length] at O
        replace O : Own H [(D, .lst (ws.map V.str)), (q, .lst ((Txt.split x sp1).map V.str))] H' := by rw [← hws]; exact O
        walk_at "g"
        refine ⟨D, "base", ws, 0, rfl, O.get 0 rfl, g0, base_ok.1, fun J0 s0 => ?_⟩
        replace O := O.same s0
        walk_at "g"
        exact ⟨D, ws, 1, 2, 16, rfl, O.get 0 rfl, fun z e m => wrong_at c1 z e (by show z ∈ numsL 2 15; exact m), by omega, by omega, by omega, by omega, fun d H1 s1 hd => h d H1 (O.same s1).st hd⟩
      rw [if_neg c1] at hk
      replace c1 := Bool.eq_false_iff.mpr c1
      obtain ⟨n1, g1, m1⟩ := right_n (lo := 2) (n := 15) c1 rfl
      replace m1 : 2 ≤ n1 ∧ n1 ≤ 16 := by omega
      by_cases c2 : wrongAt1 ws 2 = true
      · rw [if_pos c2] at hk
        obtain rfl := (Option.some.inj hk).symm
        refine ⟨_, (pss_cons (ps_setLc (i := 1) rfl sc_read.nd rfl rfl (sw_true rfl rfl rfl (by decide +kernel)) (own := [("word", 5)]) (pi_list (pe_bm PySem.F.plainAttrs_str PySem.F.slot_str_split PySem.F.type_str_split mt_split (pv 0) (pa_cons pe_str pa_nil))) (blkOk_by (N := N_read) (sc := defScope s_read) (by decide +kernel)) (fun _ _ _ _ _ => (pg_name (i := 5) sc_read.nd rfl (Or.inl rfl))) (fun _ _ _ _ _ => (pts_one (pt_cmpR op_ne (pv 5) pe_str (nomark _)))) (fun _ _ _ _ _ => (pv 5)))
    (pss_cons (ps_expr (pe_call (ok_need_word T) (hr.mono (by decide)) rfl T.g_need_word T.F_need_word.kp T.b_need_word .nil pass0 (pa_cons (pv 1) (pa_cons pe_int (pa_cons pe_str pa_nil)))))
    (pss_cons (ps_set (i := 2) sc_read.nd rfl (Or.inl rfl) (pe_call (ok_number_in T) (hr.mono (by decide)) rfl T.g_number_in T.F_number_in.kp T.b_number_in .nil pass0 (pa_cons (pv 1) (pa_cons pe_int (pa_cons (pe_globI rfl T.v_LEAST_BASE) (pa_cons (pe_globI rfl T.v_MOST_BASE) pa_nil))))))
    (pss_cons (ps_expr (pe_call (okX_need_word T) (hr.mono (by decide)) rfl T.g_need_word T.F_need_word.kp T.b_need_word .nil (passes_call (takes_of rfl rfl rfl rfl) (fun _ _ _ _ h => h)) (pa_cons (pv 1) (pa_cons pe_int (pa_cons pe_str pa_nil)))))
    pss_never)))), ?_⟩
        walk_at "g"
        refine ⟨rfl, ?_⟩
        walk_at "g"
        refine ⟨_, _, rfl, rfl, rfl, by rw [sizeLine_eq]; omega, fun q hq => ?_⟩
        replace O := Own.new (o := .lst ((Txt.split x sp1).map V.str)) O hq
        refine ⟨q, rfl, ⟨_, Own.sq O 0 rfl⟩, fun D hD => ?_⟩
        replace O := Own.new (o := .lst []) O hD
        refine lc_list (xs := (Txt.split x sp1).map V.str) (fun i H' => Own H [(D, .lst ((((Txt.split x sp1).take i).filter fun y => !decide (V.str y = V.str "")).map V.str)), (q, .lst ((Txt.split x sp1).map V.str))] H') O (fun i H' _ O => Own.sq O 1 rfl) ?_ ?_
        · clear O
          rintro i v H' hi O
          rw [List.getElem?_map] at hi
          obtain ⟨y, hy, rfl⟩ := Option.map_eq_some_iff.mp hi
          have il := (List.getElem?_eq_some_iff.mp hy).1
          have fl := List.length_filter_le (fun y : Str => !decide (V.str y = V.str "")) ((Txt.split x sp1).take i)
          rw [List.length_take] at fl
          walk_at "g"
          refine ⟨rfl, ?_⟩
          walk_at "g"
          refine ⟨rfl, ?_⟩
          rw [take_filter hy]
          cases c : !decide (V.str y = V.str "") with
          | true =>
            walk_at "g"
            refine ⟨_, O.get 0 rfl, Nat.lt_of_lt_of_le (show _ < 200000 by rw [List.length_map]; omega) (by decide), ?_⟩
            rw [if_pos rfl, List.map_append]
            exact O.put 0 rfl
          | false =>
            walk_at "g"
            rw [if_neg (by decide), List.append_nil]
            exact O
        clear O
        rintro H' O
        rw [List.length_map, List.take_length] at O
        replace O : Own H [(D, .lst (ws.map V.str)), (q, .lst ((Txt.split x sp1).map V.str))] H' := by rw [← hws]; exact O
        walk_at "g"
        refine ⟨D, "base", ws, 0, rfl, O.get 0 rfl, g0, base_ok.1, fun J0 s0 => ?_⟩
        replace O := O.same s0
        walk_at "g"
        refine ⟨D, ws, 1, 2, 16, n1, rfl, O.get 0 rfl, g1, m1, by omega, by omega, fun J1 s1 => ?_⟩
        replace O := O.same s1
        walk_at "g"
        exact ⟨D, "take", ws, 2, rfl, O.get 0 rfl, fun y e z => wrong_at c2 y e (by show y ∈ (["take"] : List Str); rw [z]; exact List.mem_cons_self), base_ok.2.1, hok, by omega, fun d H1 s1 hd => h d H1 (O.same s1).st hd⟩
      rw [if_neg c2] at hk
      replace c2 := Bool.eq_false_iff.mpr c2
      have g2 := right_w (w := "take") c2 rfl
      by_cases c3 : wrongAt1 ws 3 = true
      · rw [if_pos c3] at hk
        obtain rfl := (Option.some.inj hk).symm
        refine ⟨_, (pss_cons (ps_setLc (i := 1) rfl sc_read.nd rfl rfl (sw_true rfl rfl rfl (by decide +kernel)) (own := [("word", 5)]) (pi_list (pe_bm PySem.F.plainAttrs_str PySem.F.slot_str_split PySem.F.type_str_split mt_split (pv 0) (pa_cons pe_str pa_nil))) (blkOk_by (N := N_read) (sc := defScope s_read) (by decide +kernel)) (fun _ _ _ _ _ => (pg_name (i := 5) sc_read.nd rfl (Or.inl rfl))) (fun _ _ _ _ _ => (pts_one (pt_cmpR op_ne (pv 5) pe_str (nomark _)))) (fun _ _ _ _ _ => (pv 5)))
    (pss_cons (ps_expr (pe_call (ok_need_word T) (hr.mono (by decide)) rfl T.g_need_word T.F_need_word.kp T.b_need_word .nil pass0 (pa_cons (pv 1) (pa_cons pe_int (pa_cons pe_str pa_nil)))))
    (pss_cons (ps_set (i := 2) sc_read.nd rfl (Or.inl rfl) (pe_call (ok_number_in T) (hr.mono (by decide)) rfl T.g_number_in T.F_number_in.kp T.b_number_in .nil pass0 (pa_cons (pv 1) (pa_cons pe_int (pa_cons (pe_globI rfl T.v_LEAST_BASE) (pa_cons (pe_globI rfl T.v_MOST_BASE) pa_nil))))))
    (pss_cons (ps_expr (pe_call (ok_need_word T) (hr.mono (by decide)) rfl T.g_need_word T.F_need_word.kp T.b_need_word .nil pass0 (pa_cons (pv 1) (pa_cons pe_int (pa_cons pe_str pa_nil)))))
    (pss_cons (ps_set (i := 3) sc_read.nd rfl (Or.inl rfl) (pe_call (okX_number_in T) (hr.mono (by decide)) rfl T.g_number_in T.F_number_in.kp T.b_number_in .nil (passes_call (takes_of rfl rfl rfl rfl) (fun _ _ _ _ h => h)) (pa_cons (pv 1) (pa_cons pe_int (pa_cons pe_int (pa_cons (pe_globI rfl T.v_MOST_TAKE) pa_nil))))))
    pss_never))))), ?_⟩
        walk_at "g"
        refine ⟨rfl, ?_⟩
        walk_at "g"
        refine ⟨_, _, rfl, rfl, rfl, by rw [sizeLine_eq]; omega, fun q hq => ?_⟩
        replace O := Own.new (o := .lst ((Txt.split x sp1).map V.str)) O hq
        refine ⟨q, rfl, ⟨_, Own.sq O 0 rfl⟩, fun D hD => ?_⟩
        replace O := Own.new (o := .lst []) O hD
        refine lc_list (xs := (Txt.split x sp1).map V.str) (fun i H' => Own H [(D, .lst ((((Txt.split x sp1).take i).filter fun y => !decide (V.str y = V.str "")).map V.str)), (q, .lst ((Txt.split x sp1).map V.str))] H') O (fun i H' _ O => Own.sq O 1 rfl) ?_ ?_
        · clear O
          rintro i v H' hi O
          rw [List.getElem?_map] at hi
          obtain ⟨y, hy, rfl⟩ := Option.map_eq_some_iff.mp hi
          have il := (List.getElem?_eq_some_iff.mp hy).1
          have fl := List.length_filter_le (fun y : Str => !decide (V.str y = V.str "")) ((Txt.split x sp1).take i)
          rw [List.length_take] at fl
          walk_at "g"
          refine ⟨rfl, ?_⟩
          walk_at "g"
          refine ⟨rfl, ?_⟩
          rw [take_filter hy]
          cases c : !decide (V.str y = V.str "") with
          | true =>
            walk_at "g"
            refine ⟨_, O.get 0 rfl, Nat.lt_of_lt_of_le (show _ < 200000 by rw [List.length_map]; omega) (by decide), ?_⟩
            rw [if_pos rfl, List.map_append]
            exact O.put 0 rfl
          | false =>
            walk_at "g"
            rw [if_neg (by decide), List.append_nil]
            exact O
        clear O
        rintro H' O
        rw [List.length_map, List.take_length] at O
        replace O : Own H [(D, .lst (ws.map V.str)), (q, .lst ((Txt.split x sp1).map V.str))] H' := by rw [← hws]; exact O
        walk_at "g"
        refine ⟨D, "base", ws, 0, rfl, O.get 0 rfl, g0, base_ok.1, fun J0 s0 => ?_⟩
        replace O := O.same s0
        walk_at "g"
        refine ⟨D, ws, 1, 2, 16, n1, rfl, O.get 0 rfl, g1, m1, by omega, by omega, fun J1 s1 => ?_⟩
        replace O := O.same s1
        walk_at "g"
        refine ⟨D, "take", ws, 2, rfl, O.get 0 rfl, g2, base_ok.2.1, fun J2 s2 => ?_⟩
        replace O := O.same s2
        walk_at "g"
        exact ⟨D, ws, 3, 1, 2, rfl, O.get 0 rfl, fun z e m => wrong_at c3 z e (by show z ∈ (["1", "2"] : List Str); rw [one_two]; exact m), by omega, by omega, by omega, by omega, fun d H1 s1 hd => h d H1 (O.same s1).st hd⟩
      rw [if_neg c3] at hk
      replace c3 := Bool.eq_false_iff.mpr c3
      obtain ⟨n3, g3, m3⟩ := right_n (lo := 1) (n := 2) c3 one_two
      replace m3 : 1 ≤ n3 ∧ n3 ≤ 2 := by omega
      by_cases c4 : wrongAt1 ws 4 = true
      · rw [if_pos c4] at hk
        obtain rfl := (Option.some.inj hk).symm
        refine ⟨_, (pss_cons (ps_setLc (i := 1) rfl sc_read.nd rfl rfl (sw_true rfl rfl rfl (by decide +kernel)) (own := [("word", 5)]) (pi_list (pe_bm PySem.F.plainAttrs_str PySem.F.slot_str_split PySem.F.type_str_split mt_split (pv 0) (pa_cons pe_str pa_nil))) (blkOk_by (N := N_read) (sc := defScope s_read) (by decide +kernel)) (fun _ _ _ _ _ => (pg_name (i := 5) sc_read.nd rfl (Or.inl rfl))) (fun _ _ _ _ _ => (pts_one (pt_cmpR op_ne (pv 5) pe_str (nomark _)))) (fun _ _ _ _ _ => (pv 5)))
    (pss_cons (ps_expr (pe_call (ok_need_word T) (hr.mono (by decide)) rfl T.g_need_word T.F_need_word.kp T.b_need_word .nil pass0 (pa_cons (pv 1) (pa_cons pe_int (pa_cons pe_str pa_nil)))))
    (pss_cons (ps_set (i := 2) sc_read.nd rfl (Or.inl rfl) (pe_call (ok_number_in T) (hr.mono (by decide)) rfl T.g_number_in T.F_number_in.kp T.b_number_in .nil pass0 (pa_cons (pv 1) (pa_cons pe_int (pa_cons (pe_globI rfl T.v_LEAST_BASE) (pa_cons (pe_globI rfl T.v_MOST_BASE) pa_nil))))))
    (pss_cons (ps_expr (pe_call (ok_need_word T) (hr.mono (by decide)) rfl T.g_need_word T.F_need_word.kp T.b_need_word .nil pass0 (pa_cons (pv 1) (pa_cons pe_int (pa_cons pe_str pa_nil)))))
    (pss_cons (ps_set (i := 3) sc_read.nd rfl (Or.inl rfl) (pe_call (ok_number_in T) (hr.mono (by decide)) rfl T.g_number_in T.F_number_in.kp T.b_number_in .nil pass0 (pa_cons (pv 1) (pa_cons pe_int (pa_cons pe_int (pa_cons (pe_globI rfl T.v_MOST_TAKE) pa_nil))))))
    (pss_cons (ps_expr (pe_call (okX_need_word T) (hr.mono (by decide)) rfl T.g_need_word T.F_need_word.kp T.b_need_word .nil (passes_call (takes_of rfl rfl rfl rfl) (fun _ _ _ _ h => h)) (pa_cons (pv 1) (pa_cons pe_int (pa_cons pe_str pa_nil)))))
    pss_never)))))), ?_⟩
        walk_at "g"
        refine ⟨rfl, ?_⟩
        walk_at "g"
        refine ⟨_, _, rfl, rfl, rfl, by rw [sizeLine_eq]; omega, fun q hq => ?_⟩
        replace O := Own.new (o := .lst ((Txt.split x sp1).map V.str)) O hq
        refine ⟨q, rfl, ⟨_, Own.sq O 0 rfl⟩, fun D hD => ?_⟩
        replace O := Own.new (o := .lst []) O hD
        refine lc_list (xs := (Txt.split x sp1).map V.str) (fun i H' => Own H [(D, .lst ((((Txt.split x sp1).take i).filter fun y => !decide (V.str y = V.str "")).map V.str)), (q, .lst ((Txt.split x sp1).map V.str))] H') O (fun i H' _ O => Own.sq O 1 rfl) ?_ ?_
        · clear O
          rintro i v H' hi O
          rw [List.getElem?_map] at hi
          obtain ⟨y, hy, rfl⟩ := Option.map_eq_some_iff.mp hi
          have il := (List.getElem?_eq_some_iff.mp hy).1
          have fl := List.length_filter_le (fun y : Str => !decide (V.str y = V.str "")) ((Txt.split x sp1).take i)
          rw [List.length_take] at fl
          walk_at "g"
          refine ⟨rfl, ?_⟩
          walk_at "g"
          refine ⟨rfl, ?_⟩
          rw [take_filter hy]
          cases c : !decide (V.str y = V.str "") with
          | true =>
            walk_at "g"
            refine ⟨_, O.get 0 rfl, Nat.lt_of_lt_of_le (show _ < 200000 by rw [List.length_map]; omega) (by decide), ?_⟩
            rw [if_pos rfl, List.map_append]
            exact O.put 0 rfl
          | false =>
            walk_at "g"
            rw [if_neg (by decide), List.append_nil]
            exact O
        clear O
        rintro H' O
        rw [List.length_map, List.take_length] at O
        replace O : Own H [(D, .lst (ws.map V.str)), (q, .lst ((Txt.split x sp1).map V.str))] H' := by rw [← hws]; exact O
        walk_at "g"
        refine ⟨D, "base", ws, 0, rfl, O.get 0 rfl, g0, base_ok.1, fun J0 s0 => ?_⟩
        replace O := O.same s0
        walk_at "g"
        refine ⟨D, ws, 1, 2, 16, n1, rfl, O.get 0 rfl, g1, m1, by omega, by omega, fun J1 s1 => ?_⟩
        replace O := O.same s1
        walk_at "g"
        refine ⟨D, "take", ws, 2, rfl, O.get 0 rfl, g2, base_ok.2.1, fun J2 s2 => ?_⟩
        replace O := O.same s2
        walk_at "g"
        refine ⟨D, ws, 3, 1, 2, n3, rfl, O.get 0 rfl, g3, m3, by omega, by omega, fun J3 s3 => ?_⟩
        replace O := O.same s3
        walk_at "g"
        exact ⟨D, "times", ws, 4, rfl, O.get 0 rfl, fun y e z => wrong_at c4 y e (by show y ∈ (["times"] : List Str); rw [z]; exact List.mem_cons_self), base_ok.2.2, hok, by omega, fun d H1 s1 hd => h d H1 (O.same s1).st hd⟩
      rw [if_neg c4] at hk
      replace c4 := Bool.eq_false_iff.mpr c4
      have g4 := right_w (w := "times") c4 rfl
      by_cases c5 : wrongAt1 ws 5 = true
      · rw [if_pos c5] at hk
        obtain rfl := (Option.some.inj hk).symm
        refine ⟨_, (pss_cons (ps_setLc (i := 1) rfl sc_read.nd rfl rfl (sw_true rfl rfl rfl (by decide +kernel)) (own := [("word", 5)]) (pi_list (pe_bm PySem.F.plainAttrs_str PySem.F.slot_str_split PySem.F.type_str_split mt_split (pv 0) (pa_cons pe_str pa_nil))) (blkOk_by (N := N_read) (sc := defScope s_read) (by decide +kernel)) (fun _ _ _ _ _ => (pg_name (i := 5) sc_read.nd rfl (Or.inl rfl))) (fun _ _ _ _ _ => (pts_one (pt_cmpR op_ne (pv 5) pe_str (nomark _)))) (fun _ _ _ _ _ => (pv 5)))
    (pss_cons (ps_expr (pe_call (ok_need_word T) (hr.mono (by decide)) rfl T.g_need_word T.F_need_word.kp T.b_need_word .nil pass0 (pa_cons (pv 1) (pa_cons pe_int (pa_cons pe_str pa_nil)))))
    (pss_cons (ps_set (i := 2) sc_read.nd rfl (Or.inl rfl) (pe_call (ok_number_in T) (hr.mono (by decide)) rfl T.g_number_in T.F_number_in.kp T.b_number_in .nil pass0 (pa_cons (pv 1) (pa_cons pe_int (pa_cons (pe_globI rfl T.v_LEAST_BASE) (pa_cons (pe_globI rfl T.v_MOST_BASE) pa_nil))))))
    (pss_cons (ps_expr (pe_call (ok_need_word T) (hr.mono (by decide)) rfl T.g_need_word T.F_need_word.kp T.b_need_word .nil pass0 (pa_cons (pv 1) (pa_cons pe_int (pa_cons pe_str pa_nil)))))
    (pss_cons (ps_set (i := 3) sc_read.nd rfl (Or.inl rfl) (pe_call (ok_number_in T) (hr.mono (by decide)) rfl T.g_number_in T.F_number_in.kp T.b_number_in .nil pass0 (pa_cons (pv 1) (pa_cons pe_int (pa_cons pe_int (pa_cons (pe_globI rfl T.v_MOST_TAKE) pa_nil))))))
    (pss_cons (ps_expr (pe_call (ok_need_word T) (hr.mono (by decide)) rfl T.g_need_word T.F_need_word.kp T.b_need_word .nil pass0 (pa_cons (pv 1) (pa_cons pe_int (pa_cons pe_str pa_nil)))))
    (pss_cons (ps_set (i := 4) sc_read.nd rfl (Or.inl rfl) (pe_call (okX_number_in T) (hr.mono (by decide)) rfl T.g_number_in T.F_number_in.kp T.b_number_in .nil (passes_call (takes_of rfl rfl rfl rfl) (fun _ _ _ _ h => h)) (pa_cons (pv 1) (pa_cons pe_int (pa_cons (pe_un un_neg (pe_globI rfl T.v_MOST_TIMES)) (pa_cons (pe_globI rfl T.v_MOST_TIMES) pa_nil))))))
    pss_never))))))), ?_⟩
        walk_at "g"
        refine ⟨rfl, ?_⟩
        walk_at "g"
        refine ⟨_, _, rfl, rfl, rfl, by rw [sizeLine_eq]; omega, fun q hq => ?_⟩
        replace O := Own.new (o := .lst ((Txt.split x sp1).map V.str)) O hq
        refine ⟨q, rfl, ⟨_, Own.sq O 0 rfl⟩, fun D hD => ?_⟩
        replace O := Own.new (o := .lst []) O hD
        refine lc_list (xs := (Txt.split x sp1).map V.str) (fun i H' => Own H [(D, .lst ((((Txt.split x sp1).take i).filter fun y => !decide (V.str y = V.str "")).map V.str)), (q, .lst ((Txt.split x sp1).map V.str))] H') O (fun i H' _ O => Own.sq O 1 rfl) ?_ ?_
        · clear O
          rintro i v H' hi O
          rw [List.getElem?_map] at hi
          obtain ⟨y, hy, rfl⟩ := Option.map_eq_some_iff.mp hi
          have il := (List.getElem?_eq_some_iff.mp hy).1
          have fl := List.length_filter_le (fun y : Str => !decide (V.str y = V.str "")) ((Txt.split x sp1).take i)
          rw [List.length_take] at fl
          walk_at "g"
          refine ⟨rfl, ?_⟩
          walk_at "g"
          refine ⟨rfl, ?_⟩
          rw [take_filter hy]
          cases c : !decide (V.str y = V.str "") with
          | true =>
            walk_at "g"
            refine ⟨_, O.get 0 rfl, Nat.lt_of_lt_of_le (show _ < 200000 by rw [List.length_map]; omega) (by decide), ?_⟩
            rw [if_pos rfl, List.map_append]
            exact O.put 0 rfl
          | false =>
            walk_at "g"
            rw [if_neg (by decide), List.append_nil]
            exact O
        clear O
        rintro H' O
        rw [List.length_map, List.take_length] at O
        replace O : Own H [(D, .lst (ws.map V.str)), (q, .lst ((Txt.split x sp1).map V.str))] H' := by rw [← hws]; exact O
        walk_at "g"
        refine ⟨D, "base", ws, 0, rfl, O.get 0 rfl, g0, base_ok.1, fun J0 s0 => ?_⟩
        replace O := O.same s0
        walk_at "g"
        refine ⟨D, ws, 1, 2, 16, n1, rfl, O.get 0 rfl, g1, m1, by omega, by omega, fun J1 s1 => ?_⟩
        replace O := O.same s1
        walk_at "g"
        refine ⟨D, "take", ws, 2, rfl, O.get 0 rfl, g2, base_ok.2.1, fun J2 s2 => ?_⟩
        replace O := O.same s2
        walk_at "g"
        refine ⟨D, ws, 3, 1, 2, n3, rfl, O.get 0 rfl, g3, m3, by omega, by omega, fun J3 s3 => ?_⟩
        replace O := O.same s3
        walk_at "g"
        refine ⟨D, "times", ws, 4, rfl, O.get 0 rfl, g4, base_ok.2.2, fun J4 s4 => ?_⟩
        replace O := O.same s4
        walk_at "g"
        exact ⟨D, ws, 5, -100, 100, rfl, O.get 0 rfl, fun z e m => wrong_at c5 z e (by show z ∈ numsL (-100) 201; exact m), by omega, by omega, by omega, by omega, fun d H1 s1 hd => h d H1 (O.same s1).st hd⟩
      rw [if_neg c5] at hk
      replace c5 := Bool.eq_false_iff.mpr c5
      obtain ⟨n5, g5, m5⟩ := right_n (lo := -100) (n := 201) c5 rfl
      replace m5 : -100 ≤ n5 ∧ n5 ≤ 100 := by omega
      by_cases c6 : 6 < ws.length
      · rw [if_pos c6] at hk
        obtain rfl := (Option.some.inj hk).symm
        refine ⟨_, (pss_cons (ps_setLc (i := 1) rfl sc_read.nd rfl rfl (sw_true rfl rfl rfl (by decide +kernel)) (own := [("word", 5)]) (pi_list (pe_bm PySem.F.plainAttrs_str PySem.F.slot_str_split PySem.F.type_str_split mt_split (pv 0) (pa_cons pe_str pa_nil))) (blkOk_by (N := N_read) (sc := defScope s_read) (by decide +kernel)) (fun _ _ _ _ _ => (pg_name (i := 5) sc_read.nd rfl (Or.inl rfl))) (fun _ _ _ _ _ => (pts_one (pt_cmpR op_ne (pv 5) pe_str (nomark _)))) (fun _ _ _ _ _ => (pv 5)))
    (pss_cons (ps_expr (pe_call (ok_need_word T) (hr.mono (by decide)) rfl T.g_need_word T.F_need_word.kp T.b_need_word .nil pass0 (pa_cons (pv 1) (pa_cons pe_int (pa_cons pe_str pa_nil)))))
    (pss_cons (ps_set (i := 2) sc_read.nd rfl (Or.inl rfl) (pe_call (ok_number_in T) (hr.mono (by decide)) rfl T.g_number_in T.F_number_in.kp T.b_number_in .nil pass0 (pa_cons (pv 1) (pa_cons pe_int (pa_cons (pe_globI rfl T.v_LEAST_BASE) (pa_cons (pe_globI rfl T.v_MOST_BASE) pa_nil))))))
    (pss_cons (ps_expr (pe_call (ok_need_word T) (hr.mono (by decide)) rfl T.g_need_word T.F_need_word.kp T.b_need_word .nil pass0 (pa_cons (pv 1) (pa_cons pe_int (pa_cons pe_str pa_nil)))))
    (pss_cons (ps_set (i := 3) sc_read.nd rfl (Or.inl rfl) (pe_call (ok_number_in T) (hr.mono (by decide)) rfl T.g_number_in T.F_number_in.kp T.b_number_in .nil pass0 (pa_cons (pv 1) (pa_cons pe_int (pa_cons pe_int (pa_cons (pe_globI rfl T.v_MOST_TAKE) pa_nil))))))
    (pss_cons (ps_expr (pe_call (ok_need_word T) (hr.mono (by decide)) rfl T.g_need_word T.F_need_word.kp T.b_need_word .nil pass0 (pa_cons (pv 1) (pa_cons pe_int (pa_cons pe_str pa_nil)))))
    (pss_cons (ps_set (i := 4) sc_read.nd rfl (Or.inl rfl) (pe_call (ok_number_in T) (hr.mono (by decide)) rfl T.g_number_in T.F_number_in.kp T.b_number_in .nil pass0 (pa_cons (pv 1) (pa_cons pe_int (pa_cons (pe_un un_neg (pe_globI rfl T.v_MOST_TIMES)) (pa_cons (pe_globI rfl T.v_MOST_TIMES) pa_nil))))))
    (pss_cons (ps_if (pt_cmpR op_gt (pe_callB (r := R.rLen K) call_lenR (by rfl) T.n_len boot_len (pa_cons (pv 1) pa_nil)) pe_int (nomark _)) (pss_one (ps_raise1 rfl (takes_of rfl rfl rfl rfl) T.ox_InvalidText T.ix_InvalidText T.tx_InvalidText (ok_InvalidText_init T) (hr.mono (by decide)) T.b_InvalidText_init rfl T.g_InvalidText (pa_cons pe_int pa_nil))) pss_nil)
    pss_never)))))))), ?_⟩
        walk_at "g"
        refine ⟨rfl, ?_⟩
        walk_at "g"
        refine ⟨_, _, rfl, rfl, rfl, by rw [sizeLine_eq]; omega, fun q hq => ?_⟩
        replace O := Own.new (o := .lst ((Txt.split x sp1).map V.str)) O hq
        refine ⟨q, rfl, ⟨_, Own.sq O 0 rfl⟩, fun D hD => ?_⟩
        replace O := Own.new (o := .lst []) O hD
        refine lc_list (xs := (Txt.split x sp1).map V.str) (fun i H' => Own H [(D, .lst ((((Txt.split x sp1).take i).filter fun y => !decide (V.str y = V.str "")).map V.str)), (q, .lst ((Txt.split x sp1).map V.str))] H') O (fun i H' _ O => Own.sq O 1 rfl) ?_ ?_
        · clear O
          rintro i v H' hi O
          rw [List.getElem?_map] at hi
          obtain ⟨y, hy, rfl⟩ := Option.map_eq_some_iff.mp hi
          have il := (List.getElem?_eq_some_iff.mp hy).1
          have fl := List.length_filter_le (fun y : Str => !decide (V.str y = V.str "")) ((Txt.split x sp1).take i)
          rw [List.length_take] at fl
          walk_at "g"
          refine ⟨rfl, ?_⟩
          walk_at "g"
          refine ⟨rfl, ?_⟩
          rw [take_filter hy]
          cases c : !decide (V.str y = V.str "") with
          | true =>
            walk_at "g"
            refine ⟨_, O.get 0 rfl, Nat.lt_of_lt_of_le (show _ < 200000 by rw [List.length_map]; omega) (by decide), ?_⟩
            rw [if_pos rfl, List.map_append]
            exact O.put 0 rfl
          | false =>
            walk_at "g"
            rw [if_neg (by decide), List.append_nil]
            exact O
        clear O
        rintro H' O
        rw [List.length_map, List.take_length] at O
        replace O : Own H [(D, .lst (ws.map V.str)), (q, .lst ((Txt.split x sp1).map V.str))] H' := by rw [← hws]; exact O
        walk_at "g"
        refine ⟨D, "base", ws, 0, rfl, O.get 0 rfl, g0, base_ok.1, fun J0 s0 => ?_⟩
        replace O := O.same s0
        walk_at "g"
        refine ⟨D, ws, 1, 2, 16, n1, rfl, O.get 0 rfl, g1, m1, by omega, by omega, fun J1 s1 => ?_⟩
        replace O := O.same s1
        walk_at "g"
        refine ⟨D, "take", ws, 2, rfl, O.get 0 rfl, g2, base_ok.2.1, fun J2 s2 => ?_⟩
        replace O := O.same s2
        walk_at "g"
        refine ⟨D, ws, 3, 1, 2, n3, rfl, O.get 0 rfl, g3, m3, by omega, by omega, fun J3 s3 => ?_⟩
        replace O := O.same s3
        walk_at "g"
        refine ⟨D, "times", ws, 4, rfl, O.get 0 rfl, g4, base_ok.2.2, fun J4 s4 => ?_⟩
        replace O := O.same s4
        walk_at "g"
        refine ⟨D, ws, 5, -100, 100, n5, rfl, O.get 0 rfl, g5, m5, by omega, by omega, fun J5 s5 => ?_⟩
        replace O := O.same s5
        walk_at "g"
        rw [List.length_map]
        walk_at "g"
        exact fun d hd => h d _ O.st hd
      · rw [if_neg c6] at hk
        cases hk
    · obtain ⟨b, k, t, hb, hk', ht, rfl⟩ := good_of hk
      refine ⟨_, (pss_cons (ps_setLc (i := 1) rfl sc_read.nd rfl rfl (sw_true rfl rfl rfl (by decide +kernel)) (own := [("word", 5)]) (pi_list (pe_bm PySem.F.plainAttrs_str PySem.F.slot_str_split PySem.F.type_str_split mt_split (pv 0) (pa_cons pe_str pa_nil))) (blkOk_by (N := N_read) (sc := defScope s_read) (by decide +kernel)) (fun _ _ _ _ _ => (pg_name (i := 5) sc_read.nd rfl (Or.inl rfl))) (fun _ _ _ _ _ => (pts_one (pt_cmpR op_ne (pv 5) pe_str (nomark _)))) (fun _ _ _ _ _ => (pv 5)))
    (pss_cons (ps_expr (pe_call (ok_need_word T) (hr.mono (by decide)) rfl T.g_need_word T.F_need_word.kp T.b_need_word .nil pass0 (pa_cons (pv 1) (pa_cons pe_int (pa_cons pe_str pa_nil)))))
    (pss_cons (ps_set (i := 2) sc_read.nd rfl (Or.inl rfl) (pe_call (ok_number_in T) (hr.mono (by decide)) rfl T.g_number_in T.F_number_in.kp T.b_number_in .nil pass0 (pa_cons (pv 1) (pa_cons pe_int (pa_cons (pe_globI rfl T.v_LEAST_BASE) (pa_cons (pe_globI rfl T.v_MOST_BASE) pa_nil))))))
    (pss_cons (ps_expr (pe_call (ok_need_word T) (hr.mono (by decide)) rfl T.g_need_word T.F_need_word.kp T.b_need_word .nil pass0 (pa_cons (pv 1) (pa_cons pe_int (pa_cons pe_str pa_nil)))))
    (pss_cons (ps_set (i := 3) sc_read.nd rfl (Or.inl rfl) (pe_call (ok_number_in T) (hr.mono (by decide)) rfl T.g_number_in T.F_number_in.kp T.b_number_in .nil pass0 (pa_cons (pv 1) (pa_cons pe_int (pa_cons pe_int (pa_cons (pe_globI rfl T.v_MOST_TAKE) pa_nil))))))
    (pss_cons (ps_expr (pe_call (ok_need_word T) (hr.mono (by decide)) rfl T.g_need_word T.F_need_word.kp T.b_need_word .nil pass0 (pa_cons (pv 1) (pa_cons pe_int (pa_cons pe_str pa_nil)))))
    (pss_cons (ps_set (i := 4) sc_read.nd rfl (Or.inl rfl) (pe_call (ok_number_in T) (hr.mono (by decide)) rfl T.g_number_in T.F_number_in.kp T.b_number_in .nil pass0 (pa_cons (pv 1) (pa_cons pe_int (pa_cons (pe_un un_neg (pe_globI rfl T.v_MOST_TIMES)) (pa_cons (pe_globI rfl T.v_MOST_TIMES) pa_nil))))))
    (pss_cons (ps_if (pt_cmpR op_gt (pe_callB (r := R.rLen K) call_lenR (by rfl) T.n_len boot_len (pa_cons (pv 1) pa_nil)) pe_int (nomark _)) (pss_one ps_never) pss_nil)
    (pss_one (ps_ret (pe_make T.M_Trick (ok_Trick_init T) (hr.mono (by decide)) rfl T.g_Trick T.b_Trick_init .nil pass0 (pa_cons (pv 2) (pa_cons (pv 3) (pa_cons (pv 4) pa_nil)))))))))))))), ?_⟩
      walk_at "g"
      refine ⟨rfl, ?_⟩
      walk_at "g"
      refine ⟨_, _, rfl, rfl, rfl, by rw [sizeLine_eq]; omega, fun q hq => ?_⟩
      replace O := Own.new (o := .lst ((Txt.split x sp1).map V.str)) O hq
      refine ⟨q, rfl, ⟨_, Own.sq O 0 rfl⟩, fun D hD => ?_⟩
      replace O := Own.new (o := .lst []) O hD
      refine lc_list (xs := (Txt.split x sp1).map V.str) (fun i H' => Own H [(D, .lst ((((Txt.split x sp1).take i).filter fun y => !decide (V.str y = V.str "")).map V.str)), (q, .lst ((Txt.split x sp1).map V.str))] H') O (fun i H' _ O => Own.sq O 1 rfl) ?_ ?_
      · clear O
        rintro i v H' hi O
        rw [List.getElem?_map] at hi
        obtain ⟨y, hy, rfl⟩ := Option.map_eq_some_iff.mp hi
        have il := (List.getElem?_eq_some_iff.mp hy).1
        have fl := List.length_filter_le (fun y : Str => !decide (V.str y = V.str "")) ((Txt.split x sp1).take i)
        rw [List.length_take] at fl
        walk_at "g"
        refine ⟨rfl, ?_⟩
        walk_at "g"
        refine ⟨rfl, ?_⟩
        rw [take_filter hy]
        cases c : !decide (V.str y = V.str "") with
        | true =>
          walk_at "g"
          refine ⟨_, O.get 0 rfl, Nat.lt_of_lt_of_le (show _ < 200000 by rw [List.length_map]; omega) (by decide), ?_⟩
          rw [if_pos rfl, List.map_append]
          exact O.put 0 rfl
        | false =>
          walk_at "g"
          rw [if_neg (by decide), List.append_nil]
          exact O
      clear O
      rintro H' O
      rw [List.length_map, List.take_length] at O
      replace O : Own H [(D, .lst ((goodWs b k t).map V.str)), (q, .lst ((Txt.split x sp1).map V.str))] H' := by rw [← hws]; exact O
      walk_at "g"
      refine ⟨D, "base", goodWs b k t, 0, rfl, O.get 0 rfl, rfl, base_ok.1, fun H1 s1 => ?_⟩
      replace O := O.same s1
      walk_at "g"
      refine ⟨D, goodWs b k t, 1, 2, 16, b, rfl, O.get 0 rfl, rfl, hb, by omega, by omega, fun H2 s2 => ?_⟩
      replace O := O.same s2
      walk_at "g"
      refine ⟨D, "take", goodWs b k t, 2, rfl, O.get 0 rfl, rfl, base_ok.2.1, fun H3 s3 => ?_⟩
      replace O := O.same s3
      walk_at "g"
      refine ⟨D, goodWs b k t, 3, 1, 2, k, rfl, O.get 0 rfl, rfl, hk', by omega, by omega, fun H4 s4 => ?_⟩
      replace O := O.same s4
      walk_at "g"
      refine ⟨D, "times", goodWs b k t, 4, rfl, O.get 0 rfl, rfl, base_ok.2.2, fun H5 s5 => ?_⟩
      replace O := O.same s5
      walk_at "g"
      refine ⟨D, goodWs b k t, 5, -100, 100, t, rfl, O.get 0 rfl, rfl, ht, by omega, by omega, fun H6 s6 => ?_⟩
      replace O := O.same s6
      walk_at "g"
      rw [List.length_map, show (goodWs b k t).length = 6 from rfl]
      walk_at "g"
      refine use_Trick O ⟨hb, hk', ht⟩ (fun r B H7 hr7 sB O ha => ?_)
      exact h r H7 (sB.trans O.st)

/-! ### law_taken -/
/-- the row of draws as it stands -/
def RowOk (sc : Addr) (o : HO) : Prop := ∃ i s c : Int, o = .lst [.ref sc, .int i, .int s, .int c] ∧ 0 ≤ i ∧ 0 ≤ s ∧ s < 2147483647 ∧ 0 ≤ c
def sp_law_taken (K : Frag) : Sp := fun vs H Q _ => ∃ (row sc : Addr) (o : HO) (ns : List Int) (m : Int), vs = [.ref row, .int m] ∧ H row = some o ∧ RowOk sc o ∧ SqL K H sc (ns.map V.int) ∧ 0 < m ∧ m < 10 ^ 60 ∧
  ∀ (r : Int) (o' : HO) (H' : Hp), 0 ≤ r → r < m → RowOk sc o' → H' row = some o' → (∀ b v, b ≠ row → H b = some v → H' b = some v) → Q (.int r) H'
theorem row_ne {K : Frag} {H : Hp} {row sc : Addr} {o : HO} {ns : List Int} (h : H row = some o) (r : RowOk sc o) (hs : SqL K H sc (ns.map V.int)) : SqL K (del1 H row) sc (ns.map V.int) := by
  obtain ⟨i, s, c, rfl, _⟩ := r
  have d : ∀ ns : List Int, (ns.map V.int) ≠ [.ref sc, .int i, .int s, .int c] := fun ns e => by
    cases ns with
    | nil => cases e
    | cons a l => injection e with e1 _; cases e1
  rcases hs with (hs | ⟨q, hs⟩) | hs
  · have ne : sc ≠ row := fun z => by
      rw [z, h] at hs
      injection hs with e
      injection e with e
      exact d ns e.symm
    exact .inl (.inl (by rw [del1_ne ne]; exact hs))
  · have ne : sc ≠ row := fun z => by
      rw [z, h] at hs
      injection hs with e
      cases e
    exact .inl (.inr ⟨q, by rw [del1_ne ne]; exact hs⟩)
  · exact .inr hs
theorem use_law_taken {K : Frag} {B H : Hp} {Lw : List (Addr × HO)} {row sc : Addr} {o : HO} {ns : List Int} {m : Int} {Q : VK} {E : XK} (O : Own B Lw H) (i : Nat) (hi : Lw[i]? = some (row, o)) (ho : RowOk sc o) (hs : SqL K B sc (ns.map V.int)) (h1 : 0 < m ∧ m < 10 ^ 60)
    (h : ∀ (r : Int) (o' : HO) (H' : Hp), 0 ≤ r → r < m → RowOk sc o' → Own B (Lw.set i (row, o')) H' → Q (.int r) H') : sp_law_taken K ([.ref row, .int m] ++ []) H Q E :=
  ⟨row, sc, o, ns, m, rfl, O.get i hi, ho, O.seq hs, h1.1, h1.2, fun r o' H' hr0 hr1 ho' h1 h2 => h r o' H' hr0 hr1 ho' (O.but i hi h2 h1)⟩
theorem ok_law_taken (T : Txt K mg Z) : FnOk P w K mg base CX0 1 Z.f_law_taken Z.d_law_taken p_law_taken (sp_law_taken K) := by
  refine T.F_law_taken.ok sc_law_taken (fun vs H Q E h => ?_) (fun cdv A outer s H vs Q E hr h => ?_)
  · obtain ⟨_, _, _, _, _, rfl, _⟩ := h; rfl
  · obtain ⟨row, sc, o, ns, m, rfl, hrow, hok, hs, hm0, hm1, h⟩ := h
    have hs1 := row_ne hrow hok hs
    have O := Own.refl1 hrow
    obtain ⟨i, s0, c, rfl, hi0, hs0, hs2, hc0⟩ := hok
    refine ⟨_, (pss_cons (ps_if (pt_cmpR op_gt (pe_ix (r := rIxL K) ix_list (pv 0) pe_int (fun _ _ => rfl)) pe_int (nomark _)) (pss_cons (ps_set (i := 2) sc_law_taken.nd rfl (Or.inl rfl) (pe_op op_mod (pe_callTy call_int1 (by rfl) T.n_int boot_int (pa_cons (pe_ix (r := rIxL K) ix_list (pv 0) pe_int (fun _ _ => rfl)) pa_nil)) (pv 1)))
    (pss_cons (ps_asg (pe_op op_fdivW (pe_ix (r := rIxL K) ix_list (pv 0) pe_int (fun _ _ => rfl)) (pv 1)) (pg_sub (pv 0) pe_int set_list))
    (pss_one (ps_ret (pv 2))))) pss_nil)
    (pss_cons (ps_asg (pe_op op_add (pe_ix (r := rIxL K) ix_list (pv 0) pe_int (fun _ _ => rfl)) pe_int) (pg_sub (pv 0) pe_int set_list))
    (pss_cons (ps_if (pt_cmpR op_gt (pe_ix (r := rIxL K) ix_list (pv 0) pe_int (fun _ _ => rfl)) (pe_callB (r := R.rLen K) call_lenR (by rfl) T.n_len boot_len (pa_cons (pe_ix (r := rIxL K) ix_list (pv 0) pe_int (fun _ _ => rfl)) pa_nil)) (nomark _)) (pss_cons (ps_asg (pe_op op_mod (pe_callTy call_int1 (by rfl) T.n_int boot_int (pa_cons (pe_op op_add (pe_op op_mulX (pe_ix (r := rIxL K) ix_list (pv 0) pe_int (fun _ _ => rfl)) pe_int) pe_int) pa_nil)) pe_int) (pg_sub (pv 0) pe_int set_list))
    (pss_one (ps_ret (pe_op op_mod (pe_callTy call_int1 (by rfl) T.n_int boot_int (pa_cons (pe_op op_fdivW (pe_ix (r := rIxL K) ix_list (pv 0) pe_int (fun _ _ => rfl)) pe_int) pa_nil)) (pv 1))))) pss_nil)
    (pss_cons (ps_set (i := 3) sc_law_taken.nd rfl (Or.inl rfl) (pe_ix (r := rIxL K) ix_list (pe_ix (r := rIxL K) ix_list (pv 0) pe_int (fun _ _ => rfl)) (pe_op op_sub (pe_ix (r := rIxL K) ix_list (pv 0) pe_int (fun _ _ => rfl)) pe_int) (fun _ _ => rfl)))
    (pss_cons (ps_asg (pe_op op_mod (pe_callTy call_int1 (by rfl) T.n_int boot_int (pa_cons (pe_op op_add (pe_op op_add (pe_op op_mulX (pe_ix (r := rIxL K) ix_list (pv 0) pe_int (fun _ _ => rfl)) pe_int) (pv 3)) pe_int) pa_nil)) pe_int) (pg_sub (pv 0) pe_int set_list))
    (pss_cons (ps_if (pt_cmpR op_ge (pv 3) (pe_op op_pow pe_int pe_int) (nomark _)) (pss_one (ps_asg (pe_op op_fdivW (pv 3) (pv 1)) (pg_sub (pv 0) pe_int set_list))) pss_nil)
    (pss_one (ps_ret (pe_op op_mod (pe_callTy call_int1 (by rfl) T.n_int boot_int (pa_cons (pv 3) pa_nil)) (pv 1)))))))))), ?_⟩
    walk_at "g"
    refine a_it2 (fun c1 => ?_) (fun c1 => ?_)
    · walk_at "g"
      refine h _ _ _ (Int.emod_nonneg _ (by omega)) (Int.emod_lt_of_pos _ hm0) ?_ (Own.get (by assumption) 0 rfl) (Own.toBut (by assumption))
      exact ⟨_, _, _, rfl, hi0, hs0, hs2, Int.ediv_nonneg hc0 (by omega)⟩
    · walk_at "g"
      refine a_it2 (fun c2 => ?_) (fun c2 => ?_)
      · walk_at "g"
        refine h _ _ _ (Int.emod_nonneg _ (by omega)) (Int.emod_lt_of_pos _ hm0) ?_ (Own.get (by assumption) 0 rfl) (Own.toBut (by assumption))
        exact ⟨_, _, _, rfl, by omega, by omega, by omega, hc0⟩
      · rw [List.length_map] at c2
        have hlt : i.toNat < ns.length := by omega
        walk_at "g"
        refine a_ixL (v := .int (ns[i.toNat])) (Own.seq (by assumption) hs1) (at0 (j := i.toNat) (by omega) (by rw [List.getElem?_map, List.getElem?_eq_getElem hlt]; rfl)) ?_
        generalize ns[i.toNat] = cell
        walk_at "g"
        refine a_it2 (fun c3 => ?_) (fun c3 => ?_)
        · walk_at "g"
          refine h _ _ _ (Int.emod_nonneg _ (by omega)) (Int.emod_lt_of_pos _ hm0) ?_ (Own.get (by assumption) 0 rfl) (Own.toBut (by assumption))
          exact ⟨_, _, _, rfl, by omega, by omega, by omega, Int.ediv_nonneg (by omega) (by omega)⟩
        · walk_at "g"
          refine h _ _ _ (Int.emod_nonneg _ (by omega)) (Int.emod_lt_of_pos _ hm0) ?_ (Own.get (by assumption) 0 rfl) (Own.toBut (by assumption))
          exact ⟨_, _, _, rfl, by omega, by omega, by omega, hc0⟩

/-! ### law_power -/
def sp_law_power : Sp := fun vs H Q _ => ∃ b m : Int, vs = [.int b, .int m] ∧ -(2 ^ 62) ≤ m ∧ m < 2 ^ 62 ∧ -(2 ^ 64) < b ∧ b < 2 ^ 64 ∧ Q (.int (b ^ m.toNat)) H
theorem use_law_power {b m : Int} {H : Hp} {Q : VK} {E : XK} (h1 : -(2 ^ 62) ≤ m ∧ m < 2 ^ 62 ∧ -(2 ^ 64) < b ∧ b < 2 ^ 64) (h : Q (.int (b ^ m.toNat)) H) : sp_law_power ([.int b, .int m] ++ []) H Q E := ⟨_, _, rfl, h1.1, h1.2.1, h1.2.2.1, h1.2.2.2, h⟩
theorem ok_law_power (T : Txt K mg Z) : FnOk P w K mg base CX0 1 Z.f_law_power Z.d_law_power p_law_power sp_law_power := by
  refine T.F_law_power.ok sc_law_power (fun vs H Q E h => ?_) (fun cdv A outer s H vs Q E hr h => ?_)
  · obtain ⟨_, _, rfl, _⟩ := h; rfl
  · obtain ⟨b, m, rfl, h1, h2, h3, h4, h⟩ := h
    refine ⟨_, (pss_cons (ps_set (i := 2) sc_law_power.nd rfl (Or.inl rfl) pe_int)
    (pss_cons (ps_for PassesOwn.never rfl (pi_range1 rfl T.n_range (pa_cons (pv 1) pa_nil)) (pg_name (i := 3) sc_law_power.nd rfl (Or.inl rfl))
    (pss_one (ps_set (i := 2) sc_law_power.nd rfl (Or.inl rfl) (pe_op op_mulX (pv 2) (pv 0)))))
    (pss_one (ps_ret (pv 2))))), ?_⟩
    walk_at "g"
    refine for_range (fun i σ H' => H' = H ∧ ∃ v, σ = [some (.int b), some (.int m), some (.int (b ^ i)), v]) ⟨rfl, none, by rw [Int.pow_zero]; rfl⟩ ?_ ?_
    · rintro i σ H' hi ⟨rfl, v, rfl⟩
      walk_at "g"
      exact ⟨rfl, _, by rw [Int.pow_succ]; rfl⟩
    · rintro σ H' ⟨rfl, v, rfl⟩
      walk_at "g"
      exact h
-- @USE
local macro_rules | `(tactic| walk_at "c") => `(tactic| ((with_reducible refine use_law_power ?h1 ?h2); (case h1 => omega)))

/-! ### law_trick -/
-- @NEEDS Trick_init
/-- the drawn parts of a trick in a list -/
def toldL (b k t : Int) : HO := .lst [.int b, .int k, .int t]
def Small (sm : Bool) (b k : Int) : Prop := sm = true → b ^ k.toNat ≤ 25
def sp_law_trick (K : Frag) : Sp := fun vs H Q _ => ∃ (row sc : Addr) (o : HO) (ns : List Int) (sm : Bool), vs = [.ref row, .bl sm] ∧ H row = some o ∧ RowOk sc o ∧ SqL K H sc (ns.map V.int) ∧
  ∀ (b k t : Int) (p : Addr) (o' : HO) (H' : Hp), TrickOk b k t → Small sm b k → H p = none → RowOk sc o' → H' row = some o' → H' p = some (toldL b k t) → (∀ b v, b ≠ row → H b = some v → H' b = some v) → Q (.ref p) H'
theorem use_law_trick {K : Frag} {B H : Hp} {Lw : List (Addr × HO)} {row sc : Addr} {o : HO} {ns : List Int} {sm : Bool} {Q : VK} {E : XK} (O : Own B Lw H) (i : Nat) (hi : Lw[i]? = some (row, o)) (ho : RowOk sc o) (hs : SqL K B sc (ns.map V.int))
    (h : ∀ (b k t : Int) (p : Addr) (o' : HO) (H' : Hp), TrickOk b k t → Small sm b k → RowOk sc o' → Own B ((p, toldL b k t) :: Lw.set i (row, o')) H' → Q (.ref p) H') : sp_law_trick K ([.ref row, .bl sm] ++ []) H Q E :=
  ⟨row, sc, o, ns, sm, rfl, O.get i hi, ho, O.seq hs, fun b k t p o' H' h1 h2 hp ho' g1 gp g2 => h b k t p o' H' h1 h2 ho' (Own.butNew O i hi g2 g1 hp gp)⟩
theorem small_of {b k : Int} {sm : Bool} (hb : 2 ≤ b ∧ b ≤ 16) (hk : 1 ≤ k ∧ k ≤ 2) (h : sm = true → 5 < b → k = 1) : Small sm b k := fun e => by
  rcases (show k = 1 ∨ k = 2 by omega) with rfl | rfl
  · have z : b ^ (1 : Int).toNat = b := by rw [show (1 : Int).toNat = 1 from rfl, Int.pow_succ, Int.pow_zero, Int.one_mul]
    rw [z]; omega
  · have z : b ^ (2 : Int).toNat = b * b := by rw [show (2 : Int).toNat = 2 from rfl, Int.pow_succ, Int.pow_succ, Int.pow_zero, Int.one_mul]
    have b5 : b ≤ 5 := by
      by_cases q : 5 < b
      · have := h e q
        omega
      · omega
    rw [z]
    have h2 : b * b ≤ 5 * 5 := Int.mul_le_mul b5 b5 (by omega) (by omega)
    omega
theorem ok_law_trick (T : Txt K mg Z) : FnOk P w K mg base CX0 2 Z.f_law_trick Z.d_law_trick p_law_trick (sp_law_trick K) := by
  refine T.F_law_trick.ok sc_law_trick (fun vs H Q E h => ?_) (fun cdv A outer s H vs Q E hr h => ?_)
  · obtain ⟨_, _, _, _, _, rfl, _⟩ := h; rfl
  · obtain ⟨row, sc, o, ns, sm, rfl, hrow, hok, hs, h⟩ := h
    have hs := row_ne hrow hok hs
    have O := Own.refl1 hrow
    refine ⟨_, (pss_cons (ps_set (i := 2) sc_law_trick.nd rfl (Or.inr rfl) (pe_ix (r := rIxL K) ix_list (pe_lst (pa_cons pe_int (pa_cons pe_int (pa_cons pe_int (pa_cons pe_int (pa_cons pe_int (pa_cons pe_int (pa_cons (pe_op op_add pe_int (pe_call (ok_law_taken T) (hr.mono (by decide)) rfl T.g_law_taken T.F_law_taken.kp T.b_law_taken .nil pass0 (pa_cons (pv 0) (pa_cons pe_int pa_nil)))) pa_nil)))))))) (pe_call (ok_law_taken T) (hr.mono (by decide)) rfl T.g_law_taken T.F_law_taken.kp T.b_law_taken .nil pass0 (pa_cons (pv 0) (pa_cons pe_int pa_nil))) (fun _ _ => rfl)))
    (C8.pss_cut (ps_set (i := 3) sc_law_trick.nd rfl (Or.inr rfl) (pe_ifExp (PW.pt (pw_and (pt_val (pv 1)) (pw_and1 (pt_cmpR op_gt (pv 2) pe_int (nomark _))))) pe_int (pe_op op_add pe_int (pe_call (ok_law_taken T) (hr.mono (by decide)) rfl T.g_law_taken T.F_law_taken.kp T.b_law_taken .nil pass0 (pa_cons (pv 0) (pa_cons pe_int pa_nil))))))
    (pss_cons (ps_set (i := 4) sc_law_trick.nd rfl (Or.inl rfl) (pe_ix (r := rIxL K) ix_list (pe_lst (pa_cons pe_int (pa_cons (pe_un un_neg pe_int) (pa_cons (pe_un un_neg pe_int) (pa_cons pe_int (pa_cons (pe_op op_sub (pe_call (ok_law_taken T) (hr.mono (by decide)) rfl T.g_law_taken T.F_law_taken.kp T.b_law_taken .nil pass0 (pa_cons (pv 0) (pa_cons pe_int pa_nil))) pe_int) (pa_cons (pe_op op_sub (pe_call (ok_law_taken T) (hr.mono (by decide)) rfl T.g_law_taken T.F_law_taken.kp T.b_law_taken .nil pass0 (pa_cons (pv 0) (pa_cons pe_int pa_nil))) pe_int) pa_nil))))))) (pe_call (ok_law_taken T) (hr.mono (by decide)) rfl T.g_law_taken T.F_law_taken.kp T.b_law_taken .nil pass0 (pa_cons (pv 0) (pa_cons pe_int pa_nil))) (fun _ _ => rfl)))
    (C8.pss_cut (ps_if (pt_cmpR op_eq (pe_call (ok_law_taken T) (hr.mono (by decide)) rfl T.g_law_taken T.F_law_taken.kp T.b_law_taken .nil pass0 (pa_cons (pv 0) (pa_cons pe_int pa_nil))) pe_int (nomark _)) (pss_cons (ps_set (i := 5) sc_law_trick.nd rfl (Or.inr rfl) (pe_op op_add pe_int (pe_call (ok_law_taken T) (hr.mono (by decide)) rfl T.g_law_taken T.F_law_taken.kp T.b_law_taken .nil pass0 (pa_cons (pv 0) (pa_cons pe_int pa_nil)))))
    (pss_cons (ps_setLc (i := 6) rfl sc_law_trick.nd rfl rfl (sw_true rfl rfl rfl (by decide +kernel)) (own := [("_law_one", 7)]) (pi_range1 rfl T.n_range (pa_cons (pv 5) pa_nil)) (blkOk_by (N := N_law_trick) (sc := defScope s_law_trick) (by decide +kernel)) (fun _ _ _ _ _ => (pg_name (i := 7) sc_law_trick.nd rfl (Or.inl rfl))) (fun _ _ _ _ _ => (pts_one (pt_cmpR op_eq (pe_op op_mod (pe_op op_mulX (pv 7) (pe_call (ok_law_power T) (hr.mono (by decide)) rfl T.g_law_power T.F_law_power.kp T.b_law_power .nil pass0 (pa_cons (pv 2) (pa_cons (pv 3) pa_nil)))) (pv 5)) pe_int (nomark _)))) (fun _ _ _ _ _ => (pv 7)))
    (pss_one (ps_set (i := 4) sc_law_trick.nd rfl (Or.inl rfl) (pe_ifExp (pt_cmpR (r := rNeD K) (op_neD hr.units) (pv 6) (pe_lst pa_nil) (nomark _)) (pe_op op_sub (pe_ix (r := rIxL K) ix_list (pv 6) pe_int (fun _ _ => rfl)) (pe_op op_mulX (pv 5) (pe_call (ok_law_taken T) (hr.mono (by decide)) rfl T.g_law_taken T.F_law_taken.kp T.b_law_taken .nil pass0 (pa_cons (pv 0) (pa_cons pe_int pa_nil))))) (pv 4)))))) pss_nil)
    (pss_one (ps_ret (pe_lst (pa_cons (pv 2) (pa_cons (pv 3) (pa_cons (pv 4) pa_nil)))))))))), ?_⟩
    walk_at "g"
    refine use_law_taken O 0 rfl hok hs (by omega) (fun y o H1 hy0 hy1 hok O => ?_)
    walk_at "g"; walk_at "mkL"; intro p H2 hp O
    walk_at "g"
    refine use_law_taken O 1 rfl hok hs (by omega) (fun z o H3 hz0 hz1 hok O => ?_)
    walk_at "g"
    refine a_ixM (ms := [10, 2, 3, 7, 8, 16, 2 + y]) O 0 rfl hz0 hz1 (fun b hb => ?_)
    have hb : 2 ≤ b ∧ b ≤ 16 := by
      simp only [List.mem_cons, List.not_mem_nil, or_false] at hb
      omega
    replace O := O.tail
    walk_at "g"
    -- how many figures
    refine ⟨fun σ H' => ∃ (k : Int) (o : HO) (v4 v5 v6 v7 : Option V), σ = [some (.ref row), some (.bl sm), some (.int b), some (.int k), v4, v5, v6, v7] ∧ (1 ≤ k ∧ k ≤ 2) ∧ (sm = true → 5 < b → k = 1) ∧ RowOk sc o ∧ Own (del1 H row) [(row, o)] H', ?_, ?_⟩
    · walk_at "g"
      refine a_itB (fun e1 => ?_) (fun e1 => ?_)
      · walk_at "g"
        refine a_it2 (fun c => ?_) (fun c => ?_)
        · walk_at "g"
          exact ⟨1, o, _, _, _, _, rfl, by omega, fun _ _ => rfl, hok, O⟩
        · walk_at "g"
          refine use_law_taken O 0 rfl hok hs (by omega) (fun x o H4 hx0 hx1 hok O => ?_)
          walk_at "g"
          exact ⟨_, o, _, _, _, _, rfl, by omega, fun _ q => absurd q c, hok, O⟩
      · walk_at "g"
        refine use_law_taken O 0 rfl hok hs (by omega) (fun x o H4 hx0 hx1 hok O => ?_)
        walk_at "g"
        exact ⟨_, o, _, _, _, _, rfl, by omega, fun q => (by rw [e1] at q; cases q), hok, O⟩
    · clear O hok
      rintro σ H' ⟨k, o, v4, v5, v6, v7, rfl, hk, hsm, hok, O⟩
      walk_at "g"
      refine use_law_taken O 0 rfl hok hs (by omega) (fun t1 o H1 ht10 ht11 hok O => ?_)
      walk_at "g"
      refine use_law_taken O 0 rfl hok hs (by omega) (fun t2 o H1 ht20 ht21 hok O => ?_)
      walk_at "g"; walk_at "mkL"; intro p2 H4 hp2 O
      walk_at "g"
      refine use_law_taken O 1 rfl hok hs (by omega) (fun z2 o H5 hz20 hz21 hok O => ?_)
      walk_at "g"
      refine a_ixM (ms := [1, -1, -2, 0, t1 - 10, t2 - 100]) O 0 rfl hz20 hz21 (fun t ht => ?_)
      have ht : -100 ≤ t ∧ t ≤ 100 := by
        simp only [List.mem_cons, List.not_mem_nil, or_false] at ht
        omega
      replace O := O.tail
      walk_at "g"
      refine ⟨fun σ H' => ∃ (t : Int) (o : HO) (v5 v6 v7 : Option V), σ = [some (.ref row), some (.bl sm), some (.int b), some (.int k), some (.int t), v5, v6, v7] ∧ (-100 ≤ t ∧ t ≤ 100) ∧ RowOk sc o ∧ Own (del1 H row) [(row, o)] H', ?_, ?_⟩
      · walk_at "g"
        refine use_law_taken O 0 rfl hok hs (by omega) (fun x o H6 hx0 hx1 hok O => ?_)
        walk_at "g"
        refine a_it2 (fun c => ?_) (fun c => ?_)
        · walk_at "g"
          refine use_law_taken O 0 rfl hok hs (by omega) (fun d o H7 hd0 hd1 hok O => ?_)
          walk_at "g"
          intro D hD
          replace O := Own.new (o := .lst []) O hD
          refine lc_range (fun i H' => ∃ fs : List Int, (∀ x ∈ fs, 0 ≤ x ∧ x < 2 + d) ∧ fs.length ≤ i ∧ Own (del1 H row) [(D, .lst (fs.map V.int)), (row, o)] H') ⟨[], fun _ h => by simp at h, Nat.le_refl 0, O⟩ ?_ ?_
          · clear O
            rintro i H' hi ⟨fs, hf, hl, O⟩
            walk_at "g"
            refine ⟨rfl, ?_⟩
            have bs := block_small hb hk
            walk_at "g"
            refine a_it2 (fun c2 => ?_) (fun c2 => ?_)
            · walk_at "g"
              refine ⟨_, Own.get O 0 rfl, ?_, ?_⟩
              · rw [List.length_map]
                exact Nat.lt_of_lt_of_le (by omega : fs.length < 1000) (by decide)
              · replace O := Own.put (u := .lst (fs.map V.int ++ [.int (0 + (i : Int))])) O 0 rfl
                refine ⟨fs ++ [0 + (i : Int)], fun y hy => ?_, by rw [List.length_append, List.length_singleton]; omega, ?_⟩
                · rcases List.mem_append.mp hy with z | z
                  · exact hf y z
                  · have e : y = 0 + (i : Int) := by simpa using z
                    omega
                · rw [List.map_append]
                  exact O
            · exact ⟨fs, hf, by omega, O⟩
          · clear O
            rintro H' ⟨fs, hf, hl, O⟩
            walk_at "g"; walk_at "mkL"; intro e He hee O
            walk_at "g"
            cases fs with
            | nil =>
              refine a_neL (ns := []) (Own.sq O 1 rfl) (Own.sq O 0 rfl) ?_
              walk_at "g"
              exact ⟨t, o, _, _, _, rfl, ht, hok, O.tail.tail⟩
            | cons f fs =>
              refine a_neD' (d := pyL (f :: fs)) (e := pyL []) (dp_pyL (Own.sq O 1 rfl)) (dp_pyL (ns := []) (Own.sq O 0 rfl)) (can_pyL _) (Nat.le_trans (dep_pyL _) (by decide)) (can_pyL _) (Nat.le_trans (dep_pyL _) (by decide)) rfl ?_
              have hf0 := hf f List.mem_cons_self
              replace O := O.tail
              walk_at "g"
              refine a_ixI (ms := f :: fs) O 0 rfl (Int.le_refl 0) (Nat.zero_lt_succ _) ?_
              walk_at "g"
              refine use_law_taken O 1 rfl hok hs (by omega) (fun x2 o H8 hx20 hx21 hok O => ?_)
              walk_at "g"
              refine ⟨_, o, _, _, _, rfl, ?_, hok, O.tail⟩
              rcases (show x2 = 0 ∨ x2 = 1 by omega) with rfl | rfl
              · show -100 ≤ f - (2 + d) * 0 ∧ f - (2 + d) * 0 ≤ 100
                rw [Int.mul_zero]; omega
              · show -100 ≤ f - (2 + d) * 1 ∧ f - (2 + d) * 1 ≤ 100
                rw [Int.mul_one]; omega
        · walk_at "g"
          exact ⟨t, o, _, _, _, rfl, ht, hok, O⟩
      · clear O hok
        rintro σ H' ⟨t, o, v5, v6, v7, rfl, ht, hok, O⟩
        walk_at "g"; walk_at "mkL"; intro q H6 hq O
        exact h b k t q o H6 ⟨hb, hk, ht⟩ (small_of hb hk hsm) (Own.was (by assumption : Own (del1 H row) [(row, o)] H') hrow ⟨0, o, rfl⟩ hq) hok (O.get 1 rfl) (O.get 0 rfl) (Own.toBut O)

/-! ### law_wrong -/
-- @NEEDS number_in
def resV : Option Nat → V
  | some k => .int (k : Int)
  | none => .non
theorem wrong_first {ws : List Str} {k : Nat} (hk : k < 6) (h : ∀ j, j < k → wrongAt1 ws j = false) (c : wrongAt1 ws k = true) : wrongW ws = some (k + 1) := by
  unfold wrongW
  have e : k = 0 ∨ k = 1 ∨ k = 2 ∨ k = 3 ∨ k = 4 ∨ k = 5 := by omega
  rcases e with rfl | rfl | rfl | rfl | rfl | rfl
  · rw [c]; rfl
  · rw [h 0 (by omega), c]; rfl
  · rw [h 0 (by omega), h 1 (by omega), c]; rfl
  · rw [h 0 (by omega), h 1 (by omega), h 2 (by omega), c]; rfl
  · rw [h 0 (by omega), h 1 (by omega), h 2 (by omega), h 3 (by omega), c]; rfl
  · rw [h 0 (by omega), h 1 (by omega), h 2 (by omega), h 3 (by omega), h 4 (by omega), c]; rfl
theorem wrong_none {ws : List Str} (h : ∀ j, j < 6 → wrongAt1 ws j = false) : wrongW ws = if 6 < ws.length then some 7 else none := by
  unfold wrongW
  rw [h 0 (by omega), h 1 (by omega), h 2 (by omega), h 3 (by omega), h 4 (by omega), h 5 (by omega)]
  rfl
def sp_law_wrong (K : Frag) : Sp := fun vs H Q _ => ∃ (p : Addr) (ws : List Str), vs = [.ref p] ∧ H p = some (.lst (ws.map V.str)) ∧ ∀ H', Same H H' → Q (resV (wrongW ws)) H'
theorem ok_law_wrong (T : Txt K mg Z) : FnOk P w K mg base CX0 1 Z.f_law_wrong Z.d_law_wrong p_law_wrong (sp_law_wrong K) := by
  refine T.F_law_wrong.ok sc_law_wrong (fun vs H Q E h => ?_) (fun cdv A outer s H vs Q E hr h => ?_)
  · obtain ⟨_, _, rfl, _⟩ := h; rfl
  · obtain ⟨p, ws, rfl, hp, h⟩ := h
    have O := Own.refl H
    refine ⟨_, (pss_cons (ps_set (i := 1) sc_law_wrong.nd rfl (Or.inl rfl) (pe_lst (pa_cons (pe_lst (pa_cons pe_str pa_nil)) (pa_cons (pe_lc (own := [("_law_base", 3)]) (tt := tYes) rfl sc_law_wrong.nd (pi_range2 rfl T.n_range (pa_cons pe_int (pa_cons pe_int pa_nil))) (blkOk_by (N := N_law_wrong) (sc := defScope s_law_wrong) (by decide +kernel)) (fun _ _ _ _ _ => (pg_name (i := 3) sc_law_wrong.nd rfl (Or.inl rfl))) (fun _ _ _ _ _ => pts_nil) (fun _ _ _ _ _ => (pe_callTy call_str_int (by rfl) T.n_str boot_str (pa_cons (pv 3) pa_nil)))) (pa_cons (pe_lst (pa_cons pe_str pa_nil)) (pa_cons (pe_lst (pa_cons pe_str (pa_cons pe_str pa_nil))) (pa_cons (pe_lst (pa_cons pe_str pa_nil)) pa_nil)))))))
    (pss_cons (ps_expr (pe_bm PySem.F.plainAttrs_list PySem.F.slot_list_append PySem.F.type_list_append mt_append (pv 1) (pa_cons (pe_lc (own := [("_law_times", 4)]) (tt := tYes) rfl sc_law_wrong.nd (pi_range2 rfl T.n_range (pa_cons (pe_un un_neg pe_int) (pa_cons pe_int pa_nil))) (blkOk_by (N := N_law_wrong) (sc := defScope s_law_wrong) (by decide +kernel)) (fun _ _ _ _ _ => (pg_name (i := 4) sc_law_wrong.nd rfl (Or.inl rfl))) (fun _ _ _ _ _ => pts_nil) (fun _ _ _ _ _ => (pe_callTy call_str_int (by rfl) T.n_str boot_str (pa_cons (pv 4) pa_nil)))) pa_nil)))
    (pss_cons (ps_for PassesOwn.never rfl (pi_range1 rfl T.n_range (pa_cons pe_int pa_nil)) (pg_name (i := 2) sc_law_wrong.nd rfl (Or.inl rfl))
    (pss_one (ps_if (PW.pt (pw_or (pt_cmpR op_ge (pv 2) (pe_callB (r := R.rLen K) call_lenR (by rfl) T.n_len boot_len (pa_cons (pv 0) pa_nil)) (nomark _)) (pw_or1 (pt_cmpR (r := rIn K true) op_notIn_seq (pe_ix (r := rIxL K) ix_list (pv 0) (pv 2) (fun _ _ => rfl)) (pe_ix (r := rIxL K) ix_list (pv 1) (pv 2) (fun _ _ => rfl)) (by rfl))))) (pss_one (ps_ret (pe_op op_add (pv 2) pe_int))) pss_nil)))
    (pss_one (ps_ret (pe_ifExp (pt_cmpR op_gt (pe_callB (r := R.rLen K) call_lenR (by rfl) T.n_len boot_len (pa_cons (pv 0) pa_nil)) pe_int (nomark _)) pe_int pe_non)))))), ?_⟩
    walk_at "g"; walk_at "mkL"; intro l0 H1 hl0 O
    walk_at "g"
    intro l1 hl1
    replace O := Own.new (o := .lst []) O hl1
    refine lc_range (fun i H' => Own H [(l1, .lst ((numsL 2 i).map V.str)), (l0, .lst [.str "base"])] H') O ?_ ?_
    · clear O
      rintro i H' hi' O
      walk_at "g"
      refine ⟨rfl, ?_⟩
      walk_at "g"
      refine ⟨_, rfl, log_small (by omega) (by omega), ?_⟩
      refine ⟨_, O.get 0 rfl, Nat.lt_of_lt_of_le (show _ < 1000 by rw [List.length_map, nums_len]; omega) (by decide), ?_⟩
      rw [nums_snoc]
      exact O.put 0 rfl
    clear O
    rintro H2 O
    walk_at "g"; walk_at "mkL"; intro l2 H3 hl2 O
    walk_at "g"; walk_at "mkL"; intro l3 H4 hl3 O
    walk_at "g"; walk_at "mkL"; intro l4 H5 hl4 O
    walk_at "g"; walk_at "mkL"; intro lo H6 hlo O
    walk_at "g"
    refine ⟨.inl ⟨rfl, _, Own.sq O 0 rfl⟩, ?_⟩
    walk_at "g"
    intro l5 hl5
    replace O := Own.new (o := .lst []) O hl5
    refine lc_range (fun i H' => Own H [(l5, .lst ((numsL (-100) i).map V.str)), (lo, .lst [.ref l0, .ref l1, .ref l2, .ref l3, .ref l4]), (l4, .lst [.str "times"]), (l3, .lst [.str "1", .str "2"]), (l2, .lst [.str "take"]), (l1, .lst ((numsL 2 15).map V.str)), (l0, .lst [.str "base"])] H') O ?_ ?_
    · clear O
      rintro i H' hi' O
      walk_at "g"
      refine ⟨rfl, ?_⟩
      walk_at "g"
      refine ⟨_, rfl, log_small (by omega) (by omega), ?_⟩
      refine ⟨_, O.get 0 rfl, Nat.lt_of_lt_of_le (show _ < 1000 by rw [List.length_map, nums_len]; omega) (by decide), ?_⟩
      rw [nums_snoc]
      exact O.put 0 rfl
    clear O
    rintro H7 O
    walk_at "g"
    refine a_app O 1 rfl (by simp) (fun H8 O => ?_)
    simp only [List.set, List.cons_append, List.nil_append] at O
    walk_at "g"
    have hlots : ∀ i, i < 6 → ∃ q, ([.ref l0, .ref l1, .ref l2, .ref l3, .ref l4, .ref l5] : List V)[i]? = some (.ref q) ∧ H8 q = some (.lst ((lots.getD i []).map V.str)) := fun i hi => by
      have e : i = 0 ∨ i = 1 ∨ i = 2 ∨ i = 3 ∨ i = 4 ∨ i = 5 := by omega
      rcases e with rfl | rfl | rfl | rfl | rfl | rfl
      · exact ⟨l0, rfl, O.get 6 rfl⟩
      · exact ⟨l1, rfl, O.get 5 rfl⟩
      · exact ⟨l2, rfl, O.get 4 rfl⟩
      · exact ⟨l3, rfl, O.get 3 rfl⟩
      · exact ⟨l4, rfl, O.get 2 rfl⟩
      · exact ⟨l5, rfl, O.get 0 rfl⟩
    have glo : H8 lo = some (.lst [.ref l0, .ref l1, .ref l2, .ref l3, .ref l4, .ref l5]) := O.get 1 rfl
    have st := O.st
    have gp := st _ _ hp
    clear O
    refine for_range (fun i σ H' => H' = H8 ∧ (∀ j, j < i → wrongAt1 ws j = false) ∧ ∃ v2 v3 v4, σ = [some (.ref p), some (.ref lo), v2, v3, v4]) ⟨rfl, fun j hj => absurd hj (Nat.not_lt_zero _), _, _, _, rfl⟩ ?_ ?_
    · rintro i σ H' hi ⟨rfl, all, v2, v3, v4, rfl⟩
      have hi : i < 6 := hi
      have z1 : (0 + (i : Int)) = (i : Int) := by omega
      rw [z1]
      obtain ⟨q, hq, gq⟩ := hlots i hi
      walk_at "g"
      refine a_len (.inl (SqL.of gp)) ?_
      rw [List.length_map]
      walk_at "g"
      refine a_it2 (fun c => ?_) (fun c => ?_)
      · walk_at "g"
        have w : wrongAt1 ws i = true := by
          unfold wrongAt1
          rw [decide_eq_true (by omega)]; rfl
        have e := wrong_first hi all w
        rw [e] at h
        exact h _ st
      · have l : i < ws.length := by omega
        have e : ws[i]? = some ws[i] := List.getElem?_eq_getElem l
        walk_at "g"
        refine a_ixL (SqL.of gp) (v := .str ws[i]) (atI_nat (by rw [List.getElem?_map, e]; rfl)) ?_
        walk_at "g"
        refine a_ixL (SqL.of glo) (atI_nat hq) ?_
        walk_at "g"
        refine a_notInS (SqL.of gq) ?_
        have w : wrongAt1 ws i = !decide (ws[i] ∈ lots.getD i []) := by
          unfold wrongAt1
          rw [getD_of e, decide_eq_false (by omega)]; rfl
        rw [← w]
        cases c2 : wrongAt1 ws i with
        | true =>
          walk_at "g"
          have e := wrong_first hi all c2
          rw [e] at h
          exact h _ st
        | false =>
          walk_at "g"
          refine ⟨rfl, fun j hj => ?_, _, _, _, rfl⟩
          by_cases cj : j = i
          · rw [cj]; exact c2
          · exact all j (by omega)
    · rintro σ H' ⟨rfl, all, v2, v3, v4, rfl⟩
      rw [wrong_none all] at h
      walk_at "g"
      refine a_len (.inl (SqL.of gp)) ?_
      rw [List.length_map]
      walk_at "g"
      refine a_it2 (fun c => ?_) (fun c => ?_)
      · rw [if_pos (by omega)] at h
        walk_at "g"
        exact h _ st
      · rw [if_neg (by omega)] at h
        walk_at "g"
        exact h _ st

/-! ### law_refused -/
-- @NEEDS read_x law_wrong
def sp_law_refused : Sp := fun vs H Q _ => ∃ (x : Str) (ws : List Str), vs = [.str x] ∧ wdsS x = ws ∧ (∀ w ∈ ws, WordOk w) ∧ x.length ≤ 100000 ∧ ∀ H', Same H H' → Q (resV (wrongW ws)) H'
theorem ok_law_refused (T : Txt K mg Z) : FnOk P w K mg base CX0 6 Z.f_law_refused Z.d_law_refused p_law_refused sp_law_refused := by
  refine T.F_law_refused.ok sc_law_refused (fun vs H Q E h => ?_) (fun cdv A outer s H vs Q E hr h => ?_)
  · obtain ⟨_, _, rfl, _⟩ := h; rfl
  · obtain ⟨x, ws, rfl, hws, hok, hx, h⟩ := h
    refine ⟨_, (pss_cons (ps_set (i := 1) sc_law_refused.nd rfl (Or.inl rfl) pe_non)
    (pss_cons (ps_try_mix rfl rfl sc_law_refused.nd takes0 (fun W pn xe tk po => (pss_one (ps_expr (pe_callS (okX_read T) (hr.mono (by decide)) rfl T.g_read T.F_read.kp T.b_read (fun σ => passAt tk σ) (pa_cons (pv 0) pa_nil)))))
    (HdsX.as (i := 2) rfl rfl ⟨rfl, by decide, Or.inl T.g_InvalidText⟩
      (fun a oe cls d pn hz hf => (pss_one (ps_set (i := 1) sc_law_refused.nd rfl (Or.inl rfl) (pe_xf T.xf_InvalidText T.nx_InvalidText_word hz hf (pv 2))))) HdsX.nil))
    (pss_one (ps_ret (pv 1))))), ?_⟩
    walk_at "g"
    refine ⟨x, ws, rfl, hws, hok, hx, ?_⟩
    cases e : wrongW ws with
    | some k =>
      rw [e] at h
      refine .inl ⟨k, rfl, fun d H1 s1 hd => ?_⟩
      show wEx _ _ _ _ _ _ _ _
      refine a_exYes T.em_InvalidText_InvalidText (fun ea hea => ?_)
      have O := Own.new (o := .xd [("word", .int (k : Int))]) (Own.refl H1) hd
      walk_at "g"
      refine ⟨rfl, rfl, d, _, _, rfl, upd_same, lk_eq, ?_⟩
      walk_at "g"
      exact h _ (s1.trans O.st)
    | none =>
      rw [e] at h
      refine .inr ⟨rfl, fun r H' s => ?_⟩
      walk_at "g"
      exact h _ s

/-! ### law -/
-- @NEEDS write read law_refused law_wrong law_trick law_taken Trick_eq Trick_init
theorem a_m1 {r : V → List V → Hp → VK → Prop} {to te : TE} {σ : L2.St} {H : Hp} {Q : VK} (h : to σ H fun x H1 => (∃ a, x = .str a) ∧ te σ H1 fun y H2 => r x [y] H2 Q) : tM1 r to te σ H Q := h
theorem join_cp (ws : List Str) : cp (Txt.join sp1 ws) = jn32 (ws.map cp) := by
  have e : Txt.join sp1 ws = Str.join ⟨#[32]⟩ ws := by
    rw [sp1_eq]
    exact StrLaws.glued_eq_join ⟨#[32]⟩ ws
  rw [e]; exact cp_join ws
theorem words_join {ws : List Str} (h : ∀ w ∈ ws, WordOk w) : wdsS (Txt.join sp1 ws) = ws := by
  refine wdsS_of ?_
  rw [join_cp]
  refine wds_jn fun w hw => ?_
  obtain ⟨z, hz, rfl⟩ := List.mem_map.mp hw
  exact ⟨(h z hz).free, (h z hz).some⟩
theorem lit_cp : cp "base " = cp "base" ++ [32] ∧ cp " take " = 32 :: (cp "take" ++ [32]) ∧ cp " times " = 32 :: (cp "times" ++ [32]) ∧ cp Str.empty = [] := by decide +kernel
theorem txt_join (b k t : Int) : txtS b k t = Txt.join sp1 (goodWs b k t) := by
  refine cp_inj ?_
  rw [join_cp]
  unfold txtS goodWs
  obtain ⟨z1, z2, z3, z4⟩ := lit_cp
  simp only [cp_app, z1, z2, z3, z4]
  show _ = cp "base" ++ 32 :: (cp (numS b) ++ 32 :: (cp "take" ++ 32 :: (cp (numS k) ++ 32 :: (cp "times" ++ 32 :: cp (numS t)))))
  simp only [List.append_assoc, List.nil_append, List.cons_append, List.singleton_append]
theorem cp_len (x : Str) : x.length = (cp x).length := by
  show x.cps.size = x.cps.toList.length
  rw [Array.length_toList]
theorem jn_len {m : Nat} : ∀ {ps : List (List Nat)}, (∀ p ∈ ps, p.length ≤ m) → (jn32 ps).length ≤ (m + 1) * ps.length
  | [], _ => Nat.zero_le _
  | [p], h => by
    have := h p List.mem_cons_self
    show p.length ≤ (m + 1) * 1
    omega
  | p :: q :: r, h => by
    have h1 := h p List.mem_cons_self
    have h2 := jn_len (ps := q :: r) fun x hx => h x (List.mem_cons_of_mem _ hx)
    show (p ++ 32 :: jn32 (q :: r)).length ≤ (m + 1) * ((q :: r).length + 1)
    rw [List.length_append, List.length_cons, Nat.mul_add, Nat.mul_one]
    omega
theorem join_len {ws : List Str} (h : ∀ w ∈ ws, WordOk w) : (Txt.join sp1 ws).length ≤ 9 * ws.length := by
  rw [cp_len, join_cp]
  have q := jn_len (m := 8) (ps := ws.map cp) fun p hp => by
    obtain ⟨z, hz, rfl⟩ := List.mem_map.mp hp
    rw [← cp_len]; exact (h z hz).len
  rw [List.length_map] at q
  exact q
theorem sum_len {ws : List Str} (h : ∀ w ∈ ws, WordOk w) : (ws.map (·.length)).sum ≤ ws.length * 8 := StrLaws.sumLen_le ws fun w hw => (h w hw).len
theorem sp_len : sp1.length = 1 ∧ ("" : Str).length = 0 := by decide +kernel
theorem mul_sp {n : Int} (h0 : 0 ≤ n) (h1 : n ≤ 3) : MulOk sp1 n ∧ cp (Txt.mul sp1 n) = List.replicate n.toNat 32 ∧ (Txt.mul sp1 n).length ≤ 3 := by
  have e : n = 0 ∨ n = 1 ∨ n = 2 ∨ n = 3 := by omega
  rcases e with rfl | rfl | rfl | rfl <;> exact ⟨by unfold MulOk; decide +kernel, by decide +kernel, by decide +kernel⟩
theorem join0 : ∀ ys : List Str, cp (Txt.join "" ys) = (ys.map cp).flatten := by
  have emp : ("" : Str) = ⟨#[]⟩ := by decide +kernel
  have key : ∀ ys : List Str, cp (Str.join ⟨#[]⟩ ys) = (ys.map cp).flatten := fun ys => by
    induction ys with
    | nil => rfl
    | cons y ys ih =>
      cases ys with
      | nil => show cp y = cp y ++ []; rw [List.append_nil]
      | cons z r =>
        show cp (y ++ (⟨#[]⟩ : Str) ++ Str.join ⟨#[]⟩ (z :: r)) = cp y ++ ((z :: r).map cp).flatten
        rw [cp_app, cp_app, ih]
        show cp y ++ [] ++ _ = _
        rw [List.append_nil]
  intro ys
  rw [emp]
  have e : Txt.join ⟨#[]⟩ ys = Str.join ⟨#[]⟩ ys := StrLaws.glued_eq_join ⟨#[]⟩ ys
  rw [e]; exact key ys
/-- words with blanks behind them -/
inductive Wide : List Str → List Str → Prop
  | nil : Wide [] []
  | snoc {ws ys : List Str} {w : Str} {n : Int} (h : Wide ws ys) (hw : WordOk w) (h1 : 1 ≤ n) (h2 : n ≤ 3) : Wide (ws ++ [w]) (ys ++ [w ++ Txt.mul sp1 n])
theorem Wide.len {ws ys : List Str} (h : Wide ws ys) : ys.length = ws.length ∧ ∀ y ∈ ys, y.length ≤ 11 := by
  induction h with
  | nil => exact ⟨rfl, fun y hy => by cases hy⟩
  | snoc h hw h1 h2 ih =>
    refine ⟨by rw [List.length_append, List.length_append, ih.1]; rfl, fun y hy => ?_⟩
    rcases List.mem_append.mp hy with hy | hy
    · exact ih.2 y hy
    · rw [List.mem_singleton.mp hy, len_app]
      have a := hw.len
      have b := (mul_sp (by omega) h2).2.2
      omega
theorem Wide.words {ws ys : List Str} (h : Wide ws ys) : ∃ m, (ys.map cp).flatten = m ∧ ∀ l, wds (m ++ l) = ws.map cp ++ wds l := by
  induction h with
  | nil => exact ⟨[], rfl, fun l => rfl⟩
  | @snoc ws ys w n h hw h1 h2 ih =>
    obtain ⟨m, e, k⟩ := ih
    refine ⟨_, rfl, fun l => ?_⟩
    rw [List.map_append, List.flatten_append, e, List.append_assoc, k, List.map_append, List.append_assoc]
    congr 1
    show wds ((cp (w ++ Txt.mul sp1 n) ++ []) ++ l) = [cp w] ++ wds l
    rw [List.append_nil, cp_app, (mul_sp (by omega) h2).2.1, show n.toNat = (n.toNat - 1) + 1 by omega, List.replicate_succ, List.append_assoc]
    show wds (cp w ++ 32 :: (List.replicate (n.toNat - 1) 32 ++ l)) = _
    rw [wds_app, wds_free hw.free hw.some, wds_sps]
theorem wide_words {ws ys : List Str} {n : Int} (h : Wide ws ys) (h0 : 0 ≤ n) (h1 : n ≤ 3) : wdsS (Txt.mul sp1 n ++ Txt.join "" ys) = ws := by
  refine wdsS_of ?_
  obtain ⟨m, e, k⟩ := h.words
  rw [cp_app, (mul_sp h0 h1).2.1, join0, e, wds_sps]
  have q := k []
  rw [List.append_nil, wds_nil, List.append_nil] at q
  exact q
theorem wide_len {ws ys : List Str} {n : Int} (h : Wide ws ys) (h0 : 0 ≤ n) (h1 : n ≤ 3) (hl : ws.length ≤ 20) : (Txt.mul sp1 n).length + (Txt.join "" ys).length ≤ 1000 ∧ (ys.map (·.length)).sum ≤ 300 := by
  have a := (mul_sp h0 h1).2.2
  have b := h.len
  have c := StrLaws.sumLen_le ys b.2
  have f : ∀ l : List Str, ((l.map cp).flatten).length = (l.map (·.length)).sum := fun l => by
    induction l with
    | nil => rfl
    | cons y l ih =>
      show (cp y ++ (l.map cp).flatten).length = y.length + (l.map (·.length)).sum
      rw [List.length_append, ih, cp_len y]
  rw [cp_len (Txt.join "" ys), join0, f]
  omega
def oddL : List Str := ["base", "take", "times", "1", "2", "10", "16", "17", "-2", "-100", "101", "0", "-0", "+1", "01", "x", "Base"]
theorem odd_ok : ∀ w ∈ oddL, WordOk w := fun w hw => word_by' (List.all_eq_true.mp (show (oddL.all wordB) = true by decide +kernel) w hw)
def lineW : List Str := ["base", "10\ntake", "1", "times", "1"]
theorem line_words : wdsS "base 10\ntake 1 times 1" = lineW ∧ wrongW lineW = some 2 ∧ (lineW.all wordB) = true ∧ wdsS "" = [] ∧ wrongW [] = some 1 ∧ ("base 10\ntake 1 times 1" : Str).length = 22 := by
  refine ⟨?_, ?_, ?_, ?_, ?_, ?_⟩ <;> decide +kernel
theorem cutS_take (ws : List Str) (k : Nat) : cutV (ws.map V.str) none (some (k : Int)) = (ws.take k).map V.str := by rw [cutV_to, List.map_take]
theorem cutS_drop (ws : List Str) (k : Nat) : cutV (ws.map V.str) (some (k : Int)) none = (ws.drop k).map V.str := by rw [cutV_from, List.map_drop]
def sp_law (K : Frag) : Sp := fun vs H Q _ => ∃ (a : Addr) (ns : List Int), vs = [.ref a] ∧ SqL K H a (ns.map V.int) ∧ ns.length ≤ 63 ∧ ∀ H', Q (.bl true) H'
theorem ok_law (T : Txt K mg Z) : FnOk P w K mg base CX0 7 Z.f_law Z.d_law p_law (sp_law K) := by
  refine T.F_law.ok sc_law (fun vs H Q E h => ?_) (fun cdv A outer s H vs Q E hr h => ?_)
  · obtain ⟨_, _, rfl, _⟩ := h; rfl
  · obtain ⟨a, ns, rfl, hS, hlen, h⟩ := h
    have O := Own.refl H
    refine ⟨_, (pss_cons (ps_set (i := 1) sc_law.nd rfl (Or.inr rfl) (pe_lst (pa_cons (pv 0) (pa_cons pe_int (pa_cons pe_int (pa_cons pe_int pa_nil))))))
    (pss_cons (ps_set (i := 2) sc_law.nd rfl (Or.inl rfl) (pe_lst (pa_cons pe_str (pa_cons pe_str (pa_cons pe_str (pa_cons pe_str (pa_cons pe_str (pa_cons pe_str (pa_cons pe_str (pa_cons pe_str (pa_cons pe_str (pa_cons pe_str (pa_cons pe_str (pa_cons pe_str (pa_cons pe_str (pa_cons pe_str (pa_cons pe_str (pa_cons pe_str (pa_cons pe_str pa_nil)))))))))))))))))))
    (pss_cons (ps_for PassesOwn.never rfl (pi_range1 rfl T.n_range (pa_cons pe_int pa_nil)) (pg_name (i := 3) sc_law.nd rfl (Or.inl rfl))
    (pss_cons (ps_asg (pe_call (ok_law_trick T) (hr.mono (by decide)) rfl T.g_law_trick T.F_law_trick.kp T.b_law_trick .nil pass0 (pa_cons (pv 1) (pa_cons pe_bl pa_nil))) (pg_lst rfl (pgs_cons (pg_name (i := 4) sc_law.nd rfl (Or.inl rfl)) (pgs_cons (pg_name (i := 5) sc_law.nd rfl (Or.inl rfl)) (pgs_cons (pg_name (i := 6) sc_law.nd rfl (Or.inl rfl)) pgs_nil)))))
    (pss_cons (ps_set (i := 7) sc_law.nd rfl (Or.inl rfl) (pe_lst (pa_cons pe_str (pa_cons (pe_callTy call_str_int (by rfl) T.n_str boot_str (pa_cons (pv 4) pa_nil)) (pa_cons pe_str (pa_cons (pe_callTy call_str_int (by rfl) T.n_str boot_str (pa_cons (pv 5) pa_nil)) (pa_cons pe_str (pa_cons (pe_callTy call_str_int (by rfl) T.n_str boot_str (pa_cons (pv 6) pa_nil)) pa_nil))))))))
    (pss_cons (ps_if (PW.pt (pw_or (pt_cmpR op_ne (pe_call (ok_write T) (hr.mono (by decide)) rfl T.g_write T.F_write.kp T.b_write .nil pass0 (pa_cons (pe_make T.M_Trick (ok_Trick_init T) (hr.mono (by decide)) rfl T.g_Trick T.b_Trick_init .nil pass0 (pa_cons (pv 4) (pa_cons (pv 5) (pa_cons (pv 6) pa_nil)))) pa_nil)) (pe_join pe_str (pv 7)) (nomark _)) (pw_or1 (pt_not (pt_cmpR (r := rOwnE K Z.c_Trick (sp_Trick_eq K Z)) (op_eqOwn (ok_Trick_eq T) (hr.mono (by decide)) T.m_Trick_eq.at_ T.m_Trick_eq.fn T.b_Trick_eq) (pe_call (ok_read T) (hr.mono (by decide)) rfl T.g_read T.F_read.kp T.b_read .nil pass0 (pa_cons (pe_join pe_str (pv 7)) pa_nil)) (pe_make T.M_Trick (ok_Trick_init T) (hr.mono (by decide)) rfl T.g_Trick T.b_Trick_init .nil pass0 (pa_cons (pv 4) (pa_cons (pv 5) (pa_cons (pv 6) pa_nil)))) (nomark _)))))) (pss_one (ps_ret pe_bl)) pss_nil)
    (pss_cons (ps_set (i := 8) sc_law.nd rfl (Or.inl rfl) (pe_op op_add_str (pe_op (r := rMulS) op_mulS pe_str (pe_call (ok_law_taken T) (hr.mono (by decide)) rfl T.g_law_taken T.F_law_taken.kp T.b_law_taken .nil pass0 (pa_cons (pv 1) (pa_cons pe_int pa_nil)))) (pe_join pe_str (pe_lc (own := [("_law_word", 13)]) (tt := tYes) rfl sc_law.nd (pi_list (pv 7)) (blkOk_by (N := N_law) (sc := defScope s_law) (by decide +kernel)) (fun _ _ _ _ _ => (pg_name (i := 13) sc_law.nd rfl (Or.inl rfl))) (fun _ _ _ _ _ => pts_nil) (fun _ _ _ _ _ => (pe_op op_add_str (pv 13) (pe_op (r := rMulS) op_mulS pe_str (pe_op op_add pe_int (pe_call (ok_law_taken T) (hr.mono (by decide)) rfl T.g_law_taken T.F_law_taken.kp T.b_law_taken .nil pass0 (pa_cons (pv 1) (pa_cons pe_int pa_nil)))))))))))
    (pss_cons (ps_if (pt_not (pt_cmpR (r := rOwnE K Z.c_Trick (sp_Trick_eq K Z)) (op_eqOwn (ok_Trick_eq T) (hr.mono (by decide)) T.m_Trick_eq.at_ T.m_Trick_eq.fn T.b_Trick_eq) (pe_call (ok_read T) (hr.mono (by decide)) rfl T.g_read T.F_read.kp T.b_read .nil pass0 (pa_cons (pv 8) pa_nil)) (pe_make T.M_Trick (ok_Trick_init T) (hr.mono (by decide)) rfl T.g_Trick T.b_Trick_init .nil pass0 (pa_cons (pv 4) (pa_cons (pv 5) (pa_cons (pv 6) pa_nil)))) (nomark _))) (pss_one (ps_ret pe_bl)) pss_nil)
    (pss_cons (ps_for PassesOwn.never rfl (pi_range1 rfl T.n_range (pa_cons (pe_op op_add pe_int (pe_call (ok_law_taken T) (hr.mono (by decide)) rfl T.g_law_taken T.F_law_taken.kp T.b_law_taken .nil pass0 (pa_cons (pv 1) (pa_cons pe_int pa_nil)))) pa_nil)) (pg_name (i := 9) sc_law.nd rfl (Or.inl rfl))
    (pss_cons (ps_par (i := 10) (j := 11) (by rfl) sc_law.nd rfl rfl (by decide) rfl rfl (pa_cons (pe_call (ok_law_taken T) (hr.mono (by decide)) rfl T.g_law_taken T.F_law_taken.kp T.b_law_taken .nil pass0 (pa_cons (pv 1) (pa_cons (pe_op op_add (pe_callB (r := R.rLen K) call_lenR (by rfl) T.n_len boot_len (pa_cons (pv 7) pa_nil)) pe_int) pa_nil))) (pa_cons (pe_call (ok_law_taken T) (hr.mono (by decide)) rfl T.g_law_taken T.F_law_taken.kp T.b_law_taken .nil pass0 (pa_cons (pv 1) (pa_cons pe_int pa_nil))) pa_nil)) (by rfl))
    (C8.pss_cut (ps_set (i := 12) sc_law.nd rfl (Or.inl rfl) (pe_ifExp (pt_cmpR op_ne (pv 11) pe_int (nomark _)) (pe_lst (pa_cons (pe_ix (r := rIxL K) ix_list (pv 2) (pe_call (ok_law_taken T) (hr.mono (by decide)) rfl T.g_law_taken T.F_law_taken.kp T.b_law_taken .nil pass0 (pa_cons (pv 1) (pa_cons (pe_callB (r := R.rLen K) call_lenR (by rfl) T.n_len boot_len (pa_cons (pv 2) pa_nil)) pa_nil))) (fun _ _ => rfl)) pa_nil)) (pe_lst pa_nil)))
    (pss_cons (ps_set (i := 7) sc_law.nd rfl (Or.inl rfl) (pe_op op_cat (pe_op op_cat (pe_slice (r := rSlL K) sl_list (pv 7) po_none (po_some (pv 10))) (pv 12)) (pe_slice (r := rSlL K) sl_list (pv 7) (po_some (pe_op op_add (pv 10) (pe_callTy call_int1 (by rfl) T.n_int boot_int (pa_cons (pe_cmpR (r := rIn K false) op_in_seq (pv 11) (pe_tup (pa_cons pe_int (pa_cons pe_int pa_nil))) (by rfl)) pa_nil)))) po_none)))
    (pss_one (ps_set (i := 7) sc_law.nd rfl (Or.inl rfl) (pe_ifExp (pt_cmpR op_eq (pe_call (ok_law_taken T) (hr.mono (by decide)) rfl T.g_law_taken T.F_law_taken.kp T.b_law_taken .nil pass0 (pa_cons (pv 1) (pa_cons pe_int pa_nil))) pe_int (nomark _)) (pe_revL (pv 7)) (pv 7))))))))
    (pss_one (ps_if (pt_cmpR op_ne (pe_call (ok_law_refused T) (hr.mono (by decide)) rfl T.g_law_refused T.F_law_refused.kp T.b_law_refused .nil pass0 (pa_cons (pe_join pe_str (pv 7)) pa_nil)) (pe_call (ok_law_wrong T) (hr.mono (by decide)) rfl T.g_law_wrong T.F_law_wrong.kp T.b_law_wrong .nil pass0 (pa_cons (pv 7) pa_nil)) (nomark _)) (pss_one (ps_ret pe_bl)) pss_nil)))))))))
    (pss_one (ps_ret (pe_and (pe_cmpR op_eq (pe_call (ok_law_refused T) (hr.mono (by decide)) rfl T.g_law_refused T.F_law_refused.kp T.b_law_refused .nil pass0 (pa_cons pe_str pa_nil)) pe_int (nomark _)) (pe_one (pe_cmpR op_eq (pe_call (ok_law_refused T) (hr.mono (by decide)) rfl T.g_law_refused T.F_law_refused.kp T.b_law_refused .nil pass0 (pa_cons pe_str pa_nil)) pe_int (nomark _))))))))), ?_⟩
    walk_at "g"; walk_at "mkL"; intro row H1 hrow O
    have ok : RowOk a (.lst [.ref a, .int 0, .int 138, .int 0]) := ⟨0, 138, 0, rfl, by decide, by decide, by decide, by decide⟩
    walk_at "g"; walk_at "mkL"; intro od H2 hod O
    have sD := O.fixS
    replace O := O.fix
    have god : upd H od (.lst (oddL.map V.str)) od = some (.lst (oddL.map V.str)) := upd_same
    replace O : Own (upd H od (.lst (oddL.map V.str))) [(row, .lst [.ref a, .int 0, .int 138, .int 0])] H2 := O
    replace sD : Same H (upd H od (.lst (oddL.map V.str))) := sD
    replace hS := sD.seq hS
    generalize upd H od (.lst (oddL.map V.str)) = B0 at *
    clear sD
    walk_at "g"
    refine for_range (fun i σ H' => ∃ (B : Hp) (o : HO) (v3 v4 v5 v6 v7 v8 v9 v10 v11 v12 v13 : Option V), Same B0 B ∧ RowOk a o ∧ σ = [some (.ref a), some (.ref row), some (.ref od), v3, v4, v5, v6, v7, v8, v9, v10, v11, v12, v13] ∧ Own B [(row, o)] H') ⟨_, _, _, _, _, _, _, _, _, _, _, _, _, Same.refl _, ok, rfl, O⟩ ?_ ?_
    · clear O ok
      rintro i σ H' hi ⟨B, o, v3, v4, v5, v6, v7, v8, v9, v10, v11, v12, v13, sB, ok, rfl, O⟩
      replace hS := sB.seq hS
      walk_at "g"
      refine use_law_trick O 0 rfl ok hS (fun b k t pt o H3 tk _ ok O => ?_)
      simp only [List.set] at O
      obtain ⟨hb, hk, ht⟩ := id tk
      have wok := good_words hb hk ht
      refine a_glst (Own.sq O 0 rfl) rfl ?_
      walk_at "g"
      refine ⟨b, rfl, log_small (by omega) (by omega), ?_⟩
      walk_at "g"
      refine ⟨k, rfl, log_small (by omega) (by omega), ?_⟩
      walk_at "g"
      refine ⟨t, rfl, log_small (by omega) (by omega), ?_⟩
      walk_at "g"; walk_at "mkL"; intro lw H4 hlw O
      replace O : Own B [(lw, .lst ((goodWs b k t).map V.str)), (pt, toldL b k t), (row, o)] H4 := O
      replace O := O.less (Lw' := [(lw, _), (row, _)]) (.cons_cons _ (.cons _ (.cons_cons _ .slnil)))
      walk_at "g"
      refine use_Trick O tk (fun x1 B1 H5 hx1 s1 O ha1 => ?_)
      walk_at "g"
      refine ⟨x1, b, k, t, rfl, ha1.up O, fun H6 s6 => ?_⟩
      replace O := O.same s6
      walk_at "g"
      refine a_m1 ?_
      walk_at "g"
      refine ⟨⟨_, rfl⟩, ?_⟩
      walk_at "g"
      refine ⟨sp1, lw, goodWs b k t, rfl, rfl, .inl (Own.sq O 0 rfl), by have := sum_len wok; have : (goodWs b k t).length = 6 := rfl; rw [sp_len.1]; omega, ?_⟩
      refine ⟨rfl, ?_⟩
      rw [txt_join, decide_eq_true rfl]
      walk_at "g"
      refine a_m1 ?_
      walk_at "g"
      refine ⟨⟨_, rfl⟩, ?_⟩
      walk_at "g"
      refine ⟨sp1, lw, goodWs b k t, rfl, rfl, .inl (Own.sq O 0 rfl), by have := sum_len wok; have : (goodWs b k t).length = 6 := rfl; rw [sp_len.1]; omega, ?_⟩
      have jl := join_len wok
      rw [show (goodWs b k t).length = 6 from rfl] at jl
      walk_at "g"
      refine ⟨_, b, k, t, rfl, words_join wok, hb, hk, ht, by omega, fun r1 H7 s7 hr1 => ?_⟩
      replace O := O.same s7
      walk_at "g"
      refine use_Trick (Own.refl H7) tk (fun x2 B2 H8 hx2 s2 O2 ha2 => ?_)
      have s8 := s2.trans O2.st
      replace O := O.same s8
      walk_at "g"
      refine use_Trick_eq (hr1.same s8) (ha2.up O2) ?_
      rw [decide_eq_true rfl, decide_eq_true rfl, decide_eq_true rfl, show (true && (true && true)) = true from rfl]
      walk_at "g"
      refine use_law_taken O 1 rfl ok (s1.seq hS) (by omega) (fun z1 o H9 hz10 hz11 ok O => ?_)
      simp only [List.set] at O
      obtain ⟨mo, mc, ml⟩ := mul_sp hz10 (show z1 ≤ 3 by omega)
      walk_at "g"
      refine ⟨sp1, z1, rfl, rfl, mo, ?_⟩
      walk_at "g"
      refine a_m1 ?_
      walk_at "g"
      refine ⟨⟨_, rfl⟩, ?_⟩
      walk_at "g"
      refine ⟨lw, rfl, ⟨_, Own.sq O 0 rfl⟩, fun D hD => ?_⟩
      replace O := Own.new (o := .lst []) O hD
      refine lc_list (xs := (goodWs b k t).map V.str) (fun i H' => ∃ (o : HO) (ys : List Str), RowOk a o ∧ Wide ((goodWs b k t).take i) ys ∧ Own B1 [(D, .lst (ys.map V.str)), (lw, .lst ((goodWs b k t).map V.str)), (row, o)] H') ⟨o, [], ok, .nil, O⟩ (fun i H' _ ⟨_, _, _, _, O⟩ => Own.sq O 1 rfl) ?_ ?_
      · clear O ok
        rintro j y H' hj ⟨o, ys, ok, wd, O⟩
        rw [List.getElem?_map] at hj
        obtain ⟨w, hw, rfl⟩ := Option.map_eq_some_iff.mp hj
        have jl2 := (List.getElem?_eq_some_iff.mp hw).1
        have ww := wok w (List.mem_of_getElem? hw)
        have wl := wd.len
        rw [List.length_take] at wl
        have g6 : (goodWs b k t).length = 6 := rfl
        walk_at "g"
        refine ⟨rfl, ?_⟩
        walk_at "g"
        refine use_law_taken O 2 rfl ok (s1.seq hS) (by omega) (fun z2 o H10 hz20 hz21 ok O => ?_)
        simp only [List.set] at O
        obtain ⟨mo2, mc2, ml2⟩ := mul_sp (n := 1 + z2) (by omega) (by omega)
        walk_at "g"
        refine ⟨sp1, 1 + z2, rfl, rfl, mo2, ?_⟩
        refine ⟨w, Txt.mul sp1 (1 + z2), rfl, rfl, by rw [sizeLine_eq]; have := ww.len; omega, ?_⟩
        refine ⟨_, O.get 0 rfl, Nat.lt_of_lt_of_le (show _ < 1000 by rw [List.length_map]; omega) (by decide), o, ys ++ [w ++ Txt.mul sp1 (1 + z2)], ok, ?_, ?_⟩
        · rw [List.take_add_one, hw]
          exact wd.snoc ww (by omega) (by omega)
        · rw [List.map_append]
          exact O.put 0 rfl
      clear O ok
      rintro H' ⟨o, ys, ok, wd, O⟩
      rw [List.length_map, List.take_length] at wd
      obtain ⟨wl1, wl2⟩ := wide_len wd hz10 (show z1 ≤ 3 by omega) (show (goodWs b k t).length ≤ 20 by show 6 ≤ 20; omega)
      have wl3 := wd.len.1
      rw [show (goodWs b k t).length = 6 from rfl] at wl3
      refine ⟨"", D, ys, rfl, rfl, .inl (Own.sq O 0 rfl), by rw [sp_len.2]; omega, ?_⟩
      refine ⟨Txt.mul sp1 z1, Txt.join "" ys, rfl, rfl, by rw [sizeLine_eq]; omega, ?_⟩
      walk_at "g"
      refine ⟨Txt.mul sp1 z1 ++ Txt.join "" ys, b, k, t, rfl, wide_words wd hz10 (show z1 ≤ 3 by omega), hb, hk, ht, by rw [len_app]; omega, fun r2 H11 s11 hr2 => ?_⟩
      replace O := O.same s11
      walk_at "g"
      refine use_Trick (Own.refl H11) tk (fun x3 B3 H12 hx3 s3 O3 ha3 => ?_)
      have s12 := s3.trans O3.st
      replace O := O.same s12
      walk_at "g"
      refine use_Trick_eq (hr2.same s12) (ha3.up O3) ?_
      rw [decide_eq_true rfl, decide_eq_true rfl, decide_eq_true rfl, show (true && (true && true)) = true from rfl]
      replace O := O.tail
      walk_at "g"
      refine use_law_taken O 1 rfl ok (s1.seq hS) (by omega) (fun z4 o H13 hz40 hz41 ok O => ?_)
      simp only [List.set] at O
      walk_at "g"
      have god1 := s1 _ _ (sB _ _ god)
      refine for_range (fun n σ H' => ∃ (o : HO) (lw : Addr) (ws : List Str) (v9 v10 v11 v12 : Option V), RowOk a o ∧ (∀ w ∈ ws, WordOk w) ∧ ws.length ≤ 6 + n ∧ σ = [some (.ref a), some (.ref row), some (.ref od), some (.int (0 + (i : Int))), some (.int b), some (.int k), some (.int t), some (.ref lw), some (.str (Txt.mul sp1 z1 ++ Txt.join "" ys)), v9, v10, v11, v12, v13] ∧ Own B1 [(lw, .lst (ws.map V.str)), (row, o)] H') ⟨o, lw, goodWs b k t, _, _, _, _, ok, wok, Nat.le_refl 6, rfl, O⟩ ?_ ?_
      · clear O ok
        rintro n σ H' hn ⟨o, lw, ws, v9, v10, v11, v12, ok, wok, wlen, rfl, O⟩
        have hn2 : n < 2 := by omega
        walk_at "g"
        rw [List.length_map]
        walk_at "g"
        refine use_law_taken O 1 rfl ok (s1.seq hS) (by omega) (fun at' o H14 hat0 hat1 ok O => ?_)
        simp only [List.set] at O
        obtain ⟨at1, rfl⟩ := Int.eq_ofNat_of_zero_le hat0
        walk_at "g"
        refine use_law_taken O 1 rfl ok (s1.seq hS) (by omega) (fun kd o H15 hkd0 hkd1 ok O => ?_)
        simp only [List.set] at O
        walk_at "g"
        refine ⟨fun σ H' => ∃ (o : HO) (lm : Addr) (ms : List Str), RowOk a o ∧ (∀ w ∈ ms, WordOk w) ∧ ms.length ≤ 1 ∧ σ = [some (.ref a), some (.ref row), some (.ref od), some (.int (0 + (i : Int))), some (.int b), some (.int k), some (.int t), some (.ref lw), some (.str (Txt.mul sp1 z1 ++ Txt.join "" ys)), some (.int (0 + (n : Int))), some (.int (at1 : Int)), some (.int kd), some (.ref lm), v13] ∧ Own B1 [(lm, .lst (ms.map V.str)), (lw, .lst (ws.map V.str)), (row, o)] H', ?_, ?_⟩
        · walk_at "g"
          refine a_ni2 (fun c => ?_) (fun c => ?_)
          · walk_at "g"; walk_at "mkL"; intro lm H16 hlm O
            walk_at "g"
            exact ⟨o, lm, [], ok, fun w hw => (by cases hw), Nat.zero_le _, rfl, O⟩
          · walk_at "g"
            refine a_len (.inl (SqL.of (O.st _ _ god1))) ?_
            rw [List.length_map]
            walk_at "g"
            refine use_law_taken O 1 rfl ok (s1.seq hS) (by decide) (fun z5 o H17 hz50 hz51 ok O => ?_)
            simp only [List.set] at O
            walk_at "g"
            obtain ⟨j5, rfl⟩ := Int.eq_ofNat_of_zero_le hz50
            have j5l : j5 < oddL.length := by omega
            have e5 : oddL[j5]? = some oddL[j5] := List.getElem?_eq_getElem j5l
            refine a_ixL (SqL.of (O.st _ _ god1)) (v := .str oddL[j5]) (atI_nat (by rw [List.getElem?_map, e5]; rfl)) ?_
            walk_at "g"; walk_at "mkL"; intro lm H16 hlm O
            walk_at "g"
            exact ⟨o, lm, [oddL[j5]], ok, fun w hw => by rw [List.mem_singleton.mp hw]; exact odd_ok _ (List.mem_of_getElem? e5), Nat.le_refl 1, rfl, O⟩
        · clear O ok
          rintro σ H' ⟨o, lm, ms, ok, mok, mlen, rfl, O⟩
          walk_at "g"
          refine a_slLV O (Own.sq O 1 rfl) (fun q1 H18 hq1 O => ?_)
          rw [cutS_take] at O
          walk_at "g"
          refine a_catL O (O.get 0 rfl) (O.get 1 rfl) (by rw [List.length_map, List.length_map, List.length_take]; omega) (fun q2 H19 hq2 O => ?_)
          rw [← List.map_append] at O
          walk_at "g"; walk_at "mkT"; intro tp H20 htp O
          walk_at "g"
          refine ⟨tp, _, rfl, .inr (Own.tq O 0 rfl), rfl, rfl, ?_⟩
          have bit : ∀ c : Bool, ∃ e : Nat, (if c = true then (1 : Int) else 0) = (e : Int) ∧ e ≤ 1 := fun c => by
            cases c
            · exact ⟨0, rfl, Nat.zero_le 1⟩
            · exact ⟨1, rfl, Nat.le_refl 1⟩
          obtain ⟨e, he⟩ := bit (if false = true then !inV (V.int kd) [V.int 1, V.int 2] else inV (V.int kd) [V.int 1, V.int 2])
          refine .inr ⟨_, rfl, ?_⟩
          rw [he.1]
          walk_at "g"
          rw [show (at1 : Int) + (e : Int) = ((at1 + e : Nat) : Int) by omega]
          replace O := O.less (Lw' := [(q2, _), (lw, _), (row, _)]) (.cons _ (.cons_cons _ (.cons _ (.cons _ (.cons_cons _ (.cons_cons _ .slnil))))))
          refine a_slLV O (Own.sq O 1 rfl) (fun q3 H21 hq3 O => ?_)
          rw [cutS_drop] at O
          walk_at "g"
          refine a_catL O (O.get 1 rfl) (O.get 0 rfl) (by rw [List.length_map, List.length_map, List.length_append, List.length_take, List.length_drop]; omega) (fun q4 H22 hq4 O => ?_)
          rw [← List.map_append] at O
          replace O := O.less (Lw' := [(q4, _), (row, _)]) (.cons_cons _ (.cons _ (.cons _ (.cons _ (.cons_cons _ .slnil)))))
          have nok : ∀ w ∈ ws.take at1 ++ ms ++ ws.drop (at1 + e), WordOk w := fun w hw => by
            rcases List.mem_append.mp hw with hw | hw
            · rcases List.mem_append.mp hw with hw | hw
              · exact wok w (List.mem_of_mem_take hw)
              · exact mok w hw
            · exact wok w (List.mem_of_mem_drop hw)
          have nlen : (ws.take at1 ++ ms ++ ws.drop (at1 + e)).length ≤ 6 + (n + 1) := by
            rw [List.length_append, List.length_append, List.length_take, List.length_drop]
            omega
          generalize ws.take at1 ++ ms ++ ws.drop (at1 + e) = ns2 at *
          walk_at "g"
          refine use_law_taken O 1 rfl ok (s1.seq hS) (by omega) (fun z6 o H23 hz60 hz61 ok O => ?_)
          simp only [List.set] at O
          walk_at "g"
          refine a_it2 (fun c => ?_) (fun c => ?_)
          · walk_at "g"
            refine ⟨q4, _, rfl, Own.sq O 0 rfl, fun q5 hq5 => ?_⟩
            rw [← List.map_reverse]
            replace O := Own.new (o := .lst (ns2.reverse.map V.str)) O hq5
            replace O := O.less (Lw' := [(q5, _), (row, _)]) (.cons_cons _ (.cons _ (.cons_cons _ .slnil)))
            walk_at "g"
            exact ⟨o, q5, ns2.reverse, _, _, _, _, ok, fun w hw => nok w (List.mem_reverse.mp hw), by rw [List.length_reverse]; exact nlen, rfl, O⟩
          · walk_at "g"
            exact ⟨o, q4, ns2, _, _, _, _, ok, nok, nlen, rfl, O⟩
      · clear O ok
        rintro σ H' ⟨o, lw, ws, v9, v10, v11, v12, ok, wok, wlen, rfl, O⟩
        have wl8 : ws.length ≤ 8 := by omega
        have jl := join_len wok
        have sm := sum_len wok
        walk_at "g"
        refine a_m1 ?_
        walk_at "g"
        refine ⟨⟨_, rfl⟩, ?_⟩
        walk_at "g"
        refine ⟨sp1, lw, ws, rfl, rfl, .inl (Own.sq O 0 rfl), by rw [sp_len.1]; omega, ?_⟩
        walk_at "g"
        refine ⟨_, ws, rfl, words_join wok, wok, by omega, fun H14 s14 => ?_⟩
        replace O := O.same s14
        walk_at "g"
        refine ⟨lw, ws, rfl, O.get 0 rfl, fun H15 s15 => ?_⟩
        replace O := O.same s15
        refine ⟨by cases wrongW ws <;> rfl, ?_⟩
        rw [decide_eq_true rfl]
        walk_at "g"
        exact ⟨B1, o, _, _, _, _, _, _, _, _, _, _, _, sB.trans s1, ok, rfl, O.tail⟩
    · clear O ok
      rintro σ H' ⟨B, o, v3, v4, v5, v6, v7, v8, v9, v10, v11, v12, v13, sB, ok, rfl, O⟩
      obtain ⟨e1, e2, e3, e4, e5, e6⟩ := line_words
      walk_at "g"
      refine ⟨_, [], rfl, e4, fun w hw => (by cases hw), by rw [sp_len.2]; omega, fun H2 s2 => ?_⟩
      rw [e5, show resV (some 1) = V.int 1 from rfl]
      walk_at "g"
      refine ⟨_, lineW, rfl, e1, fun w hw => word_by' (List.all_eq_true.mp e3 w hw), by rw [e6]; omega, fun H3 s3 => ?_⟩
      rw [e2, show resV (some 2) = V.int 2 from rfl]
      walk_at "g"
      exact h _

end
theorem all_mk {l : PySem.W.OpenLaw} {w : World} {K : Frag} {h : Heap} {mg : Str → Option Value} {fa f0 f1 f2 f3 f4 f5 f6 f7 f8 f9 f10 f11 f12 f13 f14 f15 f16 CTrick CInvalidText CTrickError : Addr} (X : K.In h) (G : h.Ns mainGlobals mg) (hfa : mg "law" = some (.ref fa))
    {od0 an0 : Option Addr} {sl0 : Array (Option Value)} {oc0 kV0 dc0 pm0 ct0 cd0 : Value}
    {od1 an1 : Option Addr} {sl1 : Array (Option Value)} {oc1 kV1 dc1 pm1 ct1 cd1 : Value}
    {od2 an2 : Option Addr} {sl2 : Array (Option Value)} {oc2 kV2 dc2 pm2 ct2 cd2 : Value}
    {od3 an3 : Option Addr} {sl3 : Array (Option Value)} {oc3 kV3 dc3 pm3 ct3 cd3 : Value}
    {od4 an4 : Option Addr} {sl4 : Array (Option Value)} {oc4 kV4 dc4 pm4 ct4 cd4 : Value}
    {od5 an5 : Option Addr} {sl5 : Array (Option Value)} {oc5 kV5 dc5 pm5 ct5 cd5 : Value}
    {od6 an6 : Option Addr} {sl6 : Array (Option Value)} {oc6 kV6 dc6 pm6 ct6 cd6 : Value}
    {od7 an7 : Option Addr} {sl7 : Array (Option Value)} {oc7 kV7 dc7 pm7 ct7 cd7 : Value}
    {od8 an8 : Option Addr} {sl8 : Array (Option Value)} {oc8 kV8 dc8 pm8 ct8 cd8 : Value}
    {od9 an9 : Option Addr} {sl9 : Array (Option Value)} {oc9 kV9 dc9 pm9 ct9 cd9 : Value}
    {od10 an10 : Option Addr} {sl10 : Array (Option Value)} {oc10 kV10 dc10 pm10 ct10 cd10 : Value}
    {od11 an11 : Option Addr} {sl11 : Array (Option Value)} {oc11 kV11 dc11 pm11 ct11 cd11 : Value}
    {od12 an12 : Option Addr} {sl12 : Array (Option Value)} {oc12 kV12 dc12 pm12 ct12 cd12 : Value}
    {od13 an13 : Option Addr} {sl13 : Array (Option Value)} {oc13 kV13 dc13 pm13 ct13 cd13 : Value}
    {od14 an14 : Option Addr} {sl14 : Array (Option Value)} {oc14 kV14 dc14 pm14 ct14 cd14 : Value}
    {od15 an15 : Option Addr} {sl15 : Array (Option Value)} {oc15 kV15 dc15 pm15 ct15 cd15 : Value}
    {od16 an16 : Option Addr} {sl16 : Array (Option Value)} {oc16 kV16 dc16 pm16 ct16 cd16 : Value}
    {xnInvalidText xqInvalidText : Str} {xNInvalidText : Addr} {xbInvalidText : List Value} {xsInvalidText : List Str} {xuInvalidText : List Value} {xaInvalidText : Bool} {xcInvalidText : Option Bool} {xdInvalidText : Option Addr} {x0InvalidText x1InvalidText x2InvalidText x3InvalidText x5InvalidText : Option Value}
    {tk_LEAST_BASE : Tok}
    {tk_MOST_BASE : Tok}
    {tk_MOST_TAKE : Tok}
    {tk_MOST_TIMES : Tok}
    (a0 : PySem.W.findIn K (.ref CInvalidText) "__init__" = some (some (.ref f0)))
    (i0 : PySem.W.isFn K (.ref f0) = true)
    (l0 : K.lookup f0 = some ⟨oc0, od0, .func (PySem.W.fnOf "__init__" "InvalidText.__init__" (defArgs s_InvalidText_init) (defBody s_InvalidText_init) (defScope s_InvalidText_init) .none kV0 dc0 pm0 an0 cd0 ct0), sl0⟩)
    (c0 : PySem.W.codeIn K cd0 "InvalidText.__init__" = true)
    (k0 : PySem.W.keepIn K (.ref f0) = true)
    (a1 : PySem.W.nsIn K mainGlobals "is_from" = some (some (.ref f1)))
    (l1 : K.lookup f1 = some ⟨oc1, od1, .func (PySem.W.fnOf "is_from" "is_from" (defArgs s_is_from) (defBody s_is_from) (defScope s_is_from) .none kV1 dc1 pm1 an1 cd1 ct1), sl1⟩)
    (c1 : PySem.W.codeIn K cd1 "is_from" = true)
    (k1 : PySem.W.keepIn K (.ref f1) = true)
    (a2 : PySem.W.nsIn K mainGlobals "need_base" = some (some (.ref f2)))
    (l2 : K.lookup f2 = some ⟨oc2, od2, .func (PySem.W.fnOf "need_base" "need_base" (defArgs s_need_base) (defBody s_need_base) (defScope s_need_base) .none kV2 dc2 pm2 an2 cd2 ct2), sl2⟩)
    (c2 : PySem.W.codeIn K cd2 "need_base" = true)
    (k2 : PySem.W.keepIn K (.ref f2) = true)
    (a3 : PySem.W.nsIn K mainGlobals "power" = some (some (.ref f3)))
    (l3 : K.lookup f3 = some ⟨oc3, od3, .func (PySem.W.fnOf "power" "power" (defArgs s_power) (defBody s_power) (defScope s_power) .none kV3 dc3 pm3 an3 cd3 ct3), sl3⟩)
    (c3 : PySem.W.codeIn K cd3 "power" = true)
    (k3 : PySem.W.keepIn K (.ref f3) = true)
    (a4 : PySem.W.findIn K (.ref CTrick) "__init__" = some (some (.ref f4)))
    (i4 : PySem.W.isFn K (.ref f4) = true)
    (l4 : K.lookup f4 = some ⟨oc4, od4, .func (PySem.W.fnOf "__init__" "Trick.__init__" (defArgs s_Trick_init) (defBody s_Trick_init) (defScope s_Trick_init) .none kV4 dc4 pm4 an4 cd4 ct4), sl4⟩)
    (c4 : PySem.W.codeIn K cd4 "Trick.__init__" = true)
    (k4 : PySem.W.keepIn K (.ref f4) = true)
    (a5 : PySem.W.findIn K (.ref CTrick) "__eq__" = some (some (.ref f5)))
    (i5 : PySem.W.isFn K (.ref f5) = true)
    (l5 : K.lookup f5 = some ⟨oc5, od5, .func (PySem.W.fnOf "__eq__" "Trick.__eq__" (defArgs s_Trick_eq) (defBody s_Trick_eq) (defScope s_Trick_eq) .none kV5 dc5 pm5 an5 cd5 ct5), sl5⟩)
    (c5 : PySem.W.codeIn K cd5 "Trick.__eq__" = true)
    (k5 : PySem.W.keepIn K (.ref f5) = true)
    (a6 : PySem.W.nsIn K mainGlobals "need_trick" = some (some (.ref f6)))
    (l6 : K.lookup f6 = some ⟨oc6, od6, .func (PySem.W.fnOf "need_trick" "need_trick" (defArgs s_need_trick) (defBody s_need_trick) (defScope s_need_trick) .none kV6 dc6 pm6 an6 cd6 ct6), sl6⟩)
    (c6 : PySem.W.codeIn K cd6 "need_trick" = true)
    (k6 : PySem.W.keepIn K (.ref f6) = true)
    (a7 : PySem.W.nsIn K mainGlobals "write" = some (some (.ref f7)))
    (l7 : K.lookup f7 = some ⟨oc7, od7, .func (PySem.W.fnOf "write" "write" (defArgs s_write) (defBody s_write) (defScope s_write) .none kV7 dc7 pm7 an7 cd7 ct7), sl7⟩)
    (c7 : PySem.W.codeIn K cd7 "write" = true)
    (k7 : PySem.W.keepIn K (.ref f7) = true)
    (a8 : PySem.W.nsIn K mainGlobals "number_in" = some (some (.ref f8)))
    (l8 : K.lookup f8 = some ⟨oc8, od8, .func (PySem.W.fnOf "number_in" "number_in" (defArgs s_number_in) (defBody s_number_in) (defScope s_number_in) .none kV8 dc8 pm8 an8 cd8 ct8), sl8⟩)
    (c8 : PySem.W.codeIn K cd8 "number_in" = true)
    (k8 : PySem.W.keepIn K (.ref f8) = true)
    (a9 : PySem.W.nsIn K mainGlobals "need_word" = some (some (.ref f9)))
    (l9 : K.lookup f9 = some ⟨oc9, od9, .func (PySem.W.fnOf "need_word" "need_word" (defArgs s_need_word) (defBody s_need_word) (defScope s_need_word) .none kV9 dc9 pm9 an9 cd9 ct9), sl9⟩)
    (c9 : PySem.W.codeIn K cd9 "need_word" = true)
    (k9 : PySem.W.keepIn K (.ref f9) = true)
    (a10 : PySem.W.nsIn K mainGlobals "read" = some (some (.ref f10)))
    (l10 : K.lookup f10 = some ⟨oc10, od10, .func (PySem.W.fnOf "read" "read" (defArgs s_read) (defBody s_read) (defScope s_read) .none kV10 dc10 pm10 an10 cd10 ct10), sl10⟩)
    (c10 : PySem.W.codeIn K cd10 "read" = true)
    (k10 : PySem.W.keepIn K (.ref f10) = true)
    (a11 : PySem.W.nsIn K mainGlobals "_law_taken" = some (some (.ref f11)))
    (l11 : K.lookup f11 = some ⟨oc11, od11, .func (PySem.W.fnOf "_law_taken" "_law_taken" (defArgs s_law_taken) (defBody s_law_taken) (defScope s_law_taken) .none kV11 dc11 pm11 an11 cd11 ct11), sl11⟩)
    (c11 : PySem.W.codeIn K cd11 "_law_taken" = true)
    (k11 : PySem.W.keepIn K (.ref f11) = true)
    (a12 : PySem.W.nsIn K mainGlobals "_law_power" = some (some (.ref f12)))
    (l12 : K.lookup f12 = some ⟨oc12, od12, .func (PySem.W.fnOf "_law_power" "_law_power" (defArgs s_law_power) (defBody s_law_power) (defScope s_law_power) .none kV12 dc12 pm12 an12 cd12 ct12), sl12⟩)
    (c12 : PySem.W.codeIn K cd12 "_law_power" = true)
    (k12 : PySem.W.keepIn K (.ref f12) = true)
    (a13 : PySem.W.nsIn K mainGlobals "_law_trick" = some (some (.ref f13)))
    (l13 : K.lookup f13 = some ⟨oc13, od13, .func (PySem.W.fnOf "_law_trick" "_law_trick" (defArgs s_law_trick) (defBody s_law_trick) (defScope s_law_trick) .none kV13 dc13 pm13 an13 cd13 ct13), sl13⟩)
    (c13 : PySem.W.codeIn K cd13 "_law_trick" = true)
    (k13 : PySem.W.keepIn K (.ref f13) = true)
    (a14 : PySem.W.nsIn K mainGlobals "_law_wrong" = some (some (.ref f14)))
    (l14 : K.lookup f14 = some ⟨oc14, od14, .func (PySem.W.fnOf "_law_wrong" "_law_wrong" (defArgs s_law_wrong) (defBody s_law_wrong) (defScope s_law_wrong) .none kV14 dc14 pm14 an14 cd14 ct14), sl14⟩)
    (c14 : PySem.W.codeIn K cd14 "_law_wrong" = true)
    (k14 : PySem.W.keepIn K (.ref f14) = true)
    (a15 : PySem.W.nsIn K mainGlobals "_law_refused" = some (some (.ref f15)))
    (l15 : K.lookup f15 = some ⟨oc15, od15, .func (PySem.W.fnOf "_law_refused" "_law_refused" (defArgs s_law_refused) (defBody s_law_refused) (defScope s_law_refused) .none kV15 dc15 pm15 an15 cd15 ct15), sl15⟩)
    (c15 : PySem.W.codeIn K cd15 "_law_refused" = true)
    (k15 : PySem.W.keepIn K (.ref f15) = true)
    (a16 : PySem.W.nsIn K mainGlobals "law" = some (some (.ref f16)))
    (l16 : K.lookup f16 = some ⟨oc16, od16, .func (PySem.W.fnOf "law" "law" (defArgs s_law) (defBody s_law) (defScope s_law) .none kV16 dc16 pm16 an16 cd16 ct16), sl16⟩)
    (c16 : PySem.W.codeIn K cd16 "law" = true)
    (k16 : PySem.W.keepIn K (.ref f16) = true)
    (aCInvalidText : PySem.W.nsIn K mainGlobals "InvalidText" = some (some (.ref CInvalidText)))
    (aCTrickError : PySem.W.nsIn K mainGlobals "TrickError" = some (some (.ref CTrickError)))
    (rdTrickError : PySem.W.readsIn K CTrickError (.type "type") = true)
    (gtTrickError : PySem.W.specialIn K (.ref CTrickError) "__getattribute__" = some (some (.builtin "type.__getattribute__")))
    (fcTrickError : PySem.W.findCls K (.ref CTrickError) (.type "type") "__init__" = some (.val (.builtin "ValueError.__init__")))
    (xLInvalidText : K.lookup CInvalidText = some (excClassObj xnInvalidText xqInvalidText CInvalidText xNInvalidText xbInvalidText [.ref CTrickError, .type "ValueError", .type "Exception", .type "BaseException", .type "object"] true xsInvalidText xuInvalidText xaInvalidText xcInvalidText xdInvalidText x0InvalidText x1InvalidText x2InvalidText x3InvalidText x5InvalidText "ValueError.__new__"))
    (saInvalidText : PySem.W.findIn K (.ref CInvalidText) "__setattr__" = some (some (.builtin "object.__setattr__")))
    (eCInvalidText : PySem.W.subIn K (.ref CInvalidText) (.type "BaseException") = some true)
    (tyInvalidText : PySem.W.typeIn K (.ref CInvalidText) = some (.type "type"))
    (kcInvalidText : PySem.W.keepIn K (.ref CInvalidText) = true)
    (gaInvalidText : PySem.W.findIn K (.ref CInvalidText) "__getattribute__" = some (some (.builtin "BaseException.__getattribute__")))
    (ggInvalidText : PySem.W.findIn K (.ref CInvalidText) "__getattr__" = some none)
    (hdInvalidText : PySem.W.hasDictIn K CInvalidText = true)
    (nfInvalidText_word : PySem.W.findIn K (.ref CInvalidText) "word" = some none)
    (sbInvalidText_InvalidText : PySem.W.subIn K (.ref CInvalidText) (.ref CInvalidText) = some true)
    (aCTrick : PySem.W.nsIn K mainGlobals "Trick" = some (some (.ref CTrick)))
    (pgTrick : PySem.W.plainGet K CTrick Str.empty = true)
    (hdTrick : PySem.W.hasDictIn K CTrick = true)
    (poTrick : PySem.W.plainOver K CTrick = true)
    (saTrick : PySem.W.findIn K (.ref CTrick) "__setattr__" = some (some (.builtin "object.__setattr__")))
    (mkTrick : PySem.W.makesIn K CTrick = true)
    (kcTrick : PySem.W.keepIn K (.ref CTrick) = true)
    (icTrick : PySem.W.findIn K (.ref CTrick) "__class__" = some (some (.builtin "object.__class__")))
    (tyTrick : PySem.W.typeIn K (.ref CTrick) = some (.type "type"))
    (slTrick : PySem.W.subIn K (.ref CTrick) (.type "list") = some false)
    (stTrick : PySem.W.subIn K (.ref CTrick) (.type "tuple") = some false)
    (ilTrick : PySem.W.isClsIn K CTrick = true)
    (mcTrick : PySem.W.mroIn K CTrick (.type "object") = some true)
    (nfTrick_basis : PySem.W.findIn K (.ref CTrick) "basis" = some none)
    (nfTrick_many : PySem.W.findIn K (.ref CTrick) "many" = some none)
    (nfTrick_factor : PySem.W.findIn K (.ref CTrick) "factor" = some none)
    (nfTrick_block : PySem.W.findIn K (.ref CTrick) "block" = some none)
    (snA : PySem.W.specialIn K (.builtin "object.__class__") "__get__" = some (some (.builtin "getset_descriptor.__get__")))
    (tkA : PySem.W.takesIn K (.builtin "object.__class__") = some true)
    (v_LEAST_BASE : PySem.W.nsIn K mainGlobals "LEAST_BASE" = some (some (.int (2) tk_LEAST_BASE)))
    (v_MOST_BASE : PySem.W.nsIn K mainGlobals "MOST_BASE" = some (some (.int (16) tk_MOST_BASE)))
    (v_MOST_TAKE : PySem.W.nsIn K mainGlobals "MOST_TAKE" = some (some (.int (2) tk_MOST_TAKE)))
    (v_MOST_TIMES : PySem.W.nsIn K mainGlobals "MOST_TIMES" = some (some (.int (100) tk_MOST_TIMES)))
    (z_isinstance : PySem.W.nsIn K mainGlobals "isinstance" = some none)
    (z_int : PySem.W.nsIn K mainGlobals "int" = some none)
    (z_bool : PySem.W.nsIn K mainGlobals "bool" = some none)
    (z_range : PySem.W.nsIn K mainGlobals "range" = some none)
    (z_len : PySem.W.nsIn K mainGlobals "len" = some none)
    (z_str : PySem.W.nsIn K mainGlobals "str" = some none)
    : ∃ fd : FuncData, (∀ (s : Shared) (v : Value), BindsTo s fd ⟨[v], []⟩ [("_law_script", v)]) ∧ ∀ base : Heap, K.In base → base.Ns mainGlobals mg → FnOk l.prog w K mg base CX0 7 fa fd ["_law_script"] (sp_law K) := by
  have e := hfa.symm.trans (PySem.W.mg_of X G a16)
  cases e
  have F0 := fun_mk (st := s_InvalidText_init) l0 c0 k0
  have b0 := F0.binds (ps := p_InvalidText_init) fun _ _ _ _ _ _ us hl => match us, hl with | [_, _], _ => rfl
  have F1 := fun_mk (st := s_is_from) l1 c1 k1
  have b1 := F1.binds (ps := p_is_from) fun _ _ _ _ _ _ us hl => match us, hl with | [_, _, _], _ => rfl
  have F2 := fun_mk (st := s_need_base) l2 c2 k2
  have b2 := F2.binds (ps := p_need_base) fun _ _ _ _ _ _ us hl => match us, hl with | [_], _ => rfl
  have F3 := fun_mk (st := s_power) l3 c3 k3
  have b3 := F3.binds (ps := p_power) fun _ _ _ _ _ _ us hl => match us, hl with | [_, _], _ => rfl
  have F4 := fun_mk (st := s_Trick_init) l4 c4 k4
  have b4 := F4.binds (ps := p_Trick_init) fun _ _ _ _ _ _ us hl => match us, hl with | [_, _, _, _], _ => rfl
  have F5 := fun_mk (st := s_Trick_eq) l5 c5 k5
  have b5 := F5.binds (ps := p_Trick_eq) fun _ _ _ _ _ _ us hl => match us, hl with | [_, _], _ => rfl
  have F6 := fun_mk (st := s_need_trick) l6 c6 k6
  have b6 := F6.binds (ps := p_need_trick) fun _ _ _ _ _ _ us hl => match us, hl with | [_], _ => rfl
  have F7 := fun_mk (st := s_write) l7 c7 k7
  have b7 := F7.binds (ps := p_write) fun _ _ _ _ _ _ us hl => match us, hl with | [_], _ => rfl
  have F8 := fun_mk (st := s_number_in) l8 c8 k8
  have b8 := F8.binds (ps := p_number_in) fun _ _ _ _ _ _ us hl => match us, hl with | [_, _, _, _], _ => rfl
  have F9 := fun_mk (st := s_need_word) l9 c9 k9
  have b9 := F9.binds (ps := p_need_word) fun _ _ _ _ _ _ us hl => match us, hl with | [_, _, _], _ => rfl
  have F10 := fun_mk (st := s_read) l10 c10 k10
  have b10 := F10.binds (ps := p_read) fun _ _ _ _ _ _ us hl => match us, hl with | [_], _ => rfl
  have F11 := fun_mk (st := s_law_taken) l11 c11 k11
  have b11 := F11.binds (ps := p_law_taken) fun _ _ _ _ _ _ us hl => match us, hl with | [_, _], _ => rfl
  have F12 := fun_mk (st := s_law_power) l12 c12 k12
  have b12 := F12.binds (ps := p_law_power) fun _ _ _ _ _ _ us hl => match us, hl with | [_, _], _ => rfl
  have F13 := fun_mk (st := s_law_trick) l13 c13 k13
  have b13 := F13.binds (ps := p_law_trick) fun _ _ _ _ _ _ us hl => match us, hl with | [_, _], _ => rfl
  have F14 := fun_mk (st := s_law_wrong) l14 c14 k14
  have b14 := F14.binds (ps := p_law_wrong) fun _ _ _ _ _ _ us hl => match us, hl with | [_], _ => rfl
  have F15 := fun_mk (st := s_law_refused) l15 c15 k15
  have b15 := F15.binds (ps := p_law_refused) fun _ _ _ _ _ _ us hl => match us, hl with | [_], _ => rfl
  have F16 := fun_mk (st := s_law) l16 c16 k16
  have b16 := F16.binds (ps := p_law) fun _ _ _ _ _ _ us hl => match us, hl with | [_], _ => rfl
  have T : Txt K mg ⟨f0, _, f1, _, f2, _, f3, _, f4, _, f5, _, f6, _, f7, _, f8, _, f9, _, f10, _, f11, _, f12, _, f13, _, f14, _, f15, _, fa, _, CTrick, CInvalidText, CTrickError⟩ :=
    { F_InvalidText_init := F0,
      b_InvalidText_init := b0,
      F_is_from := F1,
      b_is_from := b1,
      g_is_from := PySem.W.mg_of X G a1,
      F_need_base := F2,
      b_need_base := b2,
      g_need_base := PySem.W.mg_of X G a2,
      F_power := F3,
      b_power := b3,
      g_power := PySem.W.mg_of X G a3,
      F_Trick_init := F4,
      b_Trick_init := b4,
      F_Trick_eq := F5,
      b_Trick_eq := b5,
      m_Trick_eq := ⟨a5, i5, k5⟩,
      F_need_trick := F6,
      b_need_trick := b6,
      g_need_trick := PySem.W.mg_of X G a6,
      F_write := F7,
      b_write := b7,
      g_write := PySem.W.mg_of X G a7,
      F_number_in := F8,
      b_number_in := b8,
      g_number_in := PySem.W.mg_of X G a8,
      F_need_word := F9,
      b_need_word := b9,
      g_need_word := PySem.W.mg_of X G a9,
      F_read := F10,
      b_read := b10,
      g_read := PySem.W.mg_of X G a10,
      F_law_taken := F11,
      b_law_taken := b11,
      g_law_taken := PySem.W.mg_of X G a11,
      F_law_power := F12,
      b_law_power := b12,
      g_law_power := PySem.W.mg_of X G a12,
      F_law_trick := F13,
      b_law_trick := b13,
      g_law_trick := PySem.W.mg_of X G a13,
      F_law_wrong := F14,
      b_law_wrong := b14,
      g_law_wrong := PySem.W.mg_of X G a14,
      F_law_refused := F15,
      b_law_refused := b15,
      g_law_refused := PySem.W.mg_of X G a15,
      F_law := F16,
      b_law := b16,
      g_law := PySem.W.mg_of X G a16,
      g_Trick := PySem.W.mg_of X G aCTrick,
      cl_Trick := ⟨pgTrick, hdTrick, poTrick, saTrick⟩,
      is_Trick := ⟨⟨pgTrick, hdTrick, poTrick, saTrick⟩, icTrick, snA, tkA, mcTrick, if_pos (beq_self_eq_true _)⟩,
      sl_Trick := slTrick,
      st_Trick := stTrick,
      ty_Trick := by rw [show (PySem.W.clsIn K CTrick).isSome = true from ilTrick, tyTrick]; rfl,
      M_Trick := ⟨mkTrick, a4, i4, kcTrick⟩,
      nf_Trick_basis := nfTrick_basis,
      nf_Trick_many := nfTrick_many,
      nf_Trick_factor := nfTrick_factor,
      nf_Trick_block := nfTrick_block,
      g_InvalidText := PySem.W.mg_of X G aCInvalidText,
      g_TrickError := PySem.W.mg_of X G aCTrickError,
      oi_TrickError := ⟨rdTrickError, gtTrickError, fcTrickError⟩,
      ox_InvalidText := ⟨⟨_, _, _, _, _, _, _, _, _, _, _, _, _, _, _, xLInvalidText, (show PySem.HandSPX.refsVE [.type "ValueError", .type "Exception", .type "BaseException", .type "object"] = true from by decide +kernel)⟩, saInvalidText, eCInvalidText, tyInvalidText, kcInvalidText⟩,
      xf_InvalidText := ⟨gaInvalidText, ggInvalidText, eCInvalidText, hdInvalidText⟩,
      ix_InvalidText := a0,
      tx_InvalidText := beq_iff_eq.mp i0,
      nx_InvalidText_word := nfInvalidText_word,
      em_InvalidText_InvalidText := PySem.W.exm_ref eCInvalidText hdInvalidText tyInvalidText sbInvalidText_InvalidText,
      v_LEAST_BASE := ⟨_, PySem.W.mg_of X G v_LEAST_BASE⟩,
      v_MOST_BASE := ⟨_, PySem.W.mg_of X G v_MOST_BASE⟩,
      v_MOST_TAKE := ⟨_, PySem.W.mg_of X G v_MOST_TAKE⟩,
      v_MOST_TIMES := ⟨_, PySem.W.mg_of X G v_MOST_TIMES⟩,
      n_isinstance := PySem.W.mg_none_of X G z_isinstance,
      n_int := PySem.W.mg_none_of X G z_int,
      n_bool := PySem.W.mg_none_of X G z_bool,
      n_range := PySem.W.mg_none_of X G z_range,
      n_len := PySem.W.mg_none_of X G z_len,
      n_str := PySem.W.mg_none_of X G z_str }
  exact ⟨_, fun s v => .of_eq rfl, fun base _ _ => ok_law T⟩
theorem walk {l : PySem.W.OpenLaw} {q : Program} {loose : List Str} {XP : (Str → Option Value) → Heap → Prop} {YP : World → Heap → Prop} {d : DefRec} {K : Params → Frag} (hn : l.most = some 63) (hdf : d.params.defaults = [])
    (hY : ∀ (w : World) (h : Heap), YP w h → (K w.params).In h)
    (F : ∀ (w : World) (mg : Str → Option Value) (fa : Addr) (h : Heap), (K w.params).In h → h.Ns mainGlobals mg → mg d.name = some (.ref fa) →
      ∃ fd : FuncData, (∀ (s : Shared) (u : Value), BindsTo s fd ⟨[u], []⟩ [("_law_script", u)]) ∧ ∀ base : Heap, (K w.params).In base → base.Ns mainGlobals mg → FnOk l.prog w (K w.params) mg base CX0 7 fa fd ["_law_script"] (sp_law (K w.params))) :
    PySem.W.WalkO q loose XP YP l.row.toRowW d [] (fun f vs => PySem.call f vs) :=
  L2.walk_of (n := 63) (k := 7) (x := "_law_script") (CX := fun _ => CX0) (sp := fun w => sp_law (K w.params)) hn (by decide) hdf ⟨rfl, by decide, by decide⟩ hY F (fun _ _ a ns hl _ hS => ⟨a, ns, rfl, hS, hl, fun _ => rfl⟩) fun _ _ _ _ _ z => z
end Toy

open PySem PySem.W PyProof.Rows
set_option maxRecDepth 100000 in
set_option maxHeartbeats 0 in
theorem PySem.Challenge.cw_resttricks_k38_texts_holds : PySem.Challenge.rw_resttricks_k38_texts.Holds := by
  w_on; o_law; k_head; (case hw => w_witness2)
  k_fill
  refine Toy.walk (l := PySem.Challenge.rw_resttricks_k38_texts) rfl rfl (fun w h Y => PySem.W.kIn_of Y) ?F
  case F =>
    intro w mg fa h KX G hmg
    refine' Toy.all_mk KX G hmg ?a0 ?i0 ?l0 ?c0 ?k0 ?a1 ?l1 ?c1 ?k1 ?a2 ?l2 ?c2 ?k2 ?a3 ?l3 ?c3 ?k3 ?a4 ?i4 ?l4 ?c4 ?k4 ?a5 ?i5 ?l5 ?c5 ?k5 ?a6 ?l6 ?c6 ?k6 ?a7 ?l7 ?c7 ?k7 ?a8 ?l8 ?c8 ?k8 ?a9 ?l9 ?c9 ?k9 ?a10 ?l10 ?c10 ?k10 ?a11 ?l11 ?c11 ?k11 ?a12 ?l12 ?c12 ?k12 ?a13 ?l13 ?c13 ?k13 ?a14 ?l14 ?c14 ?k14 ?a15 ?l15 ?c15 ?k15 ?a16 ?l16 ?c16 ?k16 ?aCInvalidText ?aCTrickError ?rdTrickError ?gtTrickError ?fcTrickError ?xLInvalidText ?saInvalidText ?eCInvalidText ?tyInvalidText ?kcInvalidText ?gaInvalidText ?ggInvalidText ?hdInvalidText ?nfInvalidText_word ?sbInvalidText_InvalidText ?aCTrick ?pgTrick ?hdTrick ?poTrick ?saTrick ?mkTrick ?kcTrick ?icTrick ?tyTrick ?slTrick ?stTrick ?ilTrick ?mcTrick ?nfTrick_basis ?nfTrick_many ?nfTrick_factor ?nfTrick_block ?snA ?tkA ?v_LEAST_BASE ?v_MOST_BASE ?v_MOST_TAKE ?v_MOST_TIMES ?z_isinstance ?z_int ?z_bool ?z_range ?z_len ?z_str
    (case aCInvalidText => k_is)
    (case aCTrickError => k_is)
    (case aCTrick => k_is)
    (case a0 => k_is)
    (case i0 => k_is)
    (case l0 => k_is)
    (case c0 => k_is)
    (case k0 => k_is)
    (case a1 => k_is)
    (case l1 => k_is)
    (case c1 => k_is)
    (case k1 => k_is)
    (case a2 => k_is)
    (case l2 => k_is)
    (case c2 => k_is)
    (case k2 => k_is)
    (case a3 => k_is)
    (case l3 => k_is)
    (case c3 => k_is)
    (case k3 => k_is)
    (case a4 => k_is)
    (case i4 => k_is)
    (case l4 => k_is)
    (case c4 => k_is)
    (case k4 => k_is)
    (case a5 => k_is)
    (case i5 => k_is)
    (case l5 => k_is)
    (case c5 => k_is)
    (case k5 => k_is)
    (case a6 => k_is)
    (case l6 => k_is)
    (case c6 => k_is)
    (case k6 => k_is)
    (case a7 => k_is)
    (case l7 => k_is)
    (case c7 => k_is)
    (case k7 => k_is)
    (case a8 => k_is)
    (case l8 => k_is)
    (case c8 => k_is)
    (case k8 => k_is)
    (case a9 => k_is)
    (case l9 => k_is)
    (case c9 => k_is)
    (case k9 => k_is)
    (case a10 => k_is)
    (case l10 => k_is)
    (case c10 => k_is)
    (case k10 => k_is)
    (case a11 => k_is)
    (case l11 => k_is)
    (case c11 => k_is)
    (case k11 => k_is)
    (case a12 => k_is)
    (case l12 => k_is)
    (case c12 => k_is)
    (case k12 => k_is)
    (case a13 => k_is)
    (case l13 => k_is)
    (case c13 => k_is)
    (case k13 => k_is)
    (case a14 => k_is)
    (case l14 => k_is)
    (case c14 => k_is)
    (case k14 => k_is)
    (case a15 => k_is)
    (case l15 => k_is)
    (case c15 => k_is)
    (case k15 => k_is)
    (case a16 => k_is)
    (case l16 => k_is)
    (case c16 => k_is)
    (case k16 => k_is)
    (case rdTrickError => k_is)
    (case gtTrickError => k_is)
    (case fcTrickError => k_is)
    (case xLInvalidText => k_is)
    (case saInvalidText => k_is)
    (case eCInvalidText => k_is)
    (case tyInvalidText => k_is)
    (case kcInvalidText => k_is)
    (case gaInvalidText => k_is)
    (case ggInvalidText => k_is)
    (case hdInvalidText => k_is)
    (case nfInvalidText_word => k_is)
    (case sbInvalidText_InvalidText => k_is)
    (case pgTrick => k_is)
    (case hdTrick => k_is)
    (case poTrick => k_is)
    (case saTrick => k_is)
    (case mkTrick => k_is)
    (case kcTrick => k_is)
    (case icTrick => k_is)
    (case tyTrick => k_is)
    (case slTrick => k_is)
    (case stTrick => k_is)
    (case ilTrick => k_is)
    (case mcTrick => k_is)
    (case nfTrick_basis => k_is)
    (case nfTrick_many => k_is)
    (case nfTrick_factor => k_is)
    (case nfTrick_block => k_is)
    (case snA => k_is)
    (case tkA => k_is)
    (case v_LEAST_BASE => k_is)
    (case v_MOST_BASE => k_is)
    (case v_MOST_TAKE => k_is)
    (case v_MOST_TIMES => k_is)
    (case z_isinstance => k_is)
    (case z_int => k_is)
    (case z_bool => k_is)
    (case z_range => k_is)
    (case z_len => k_is)
    (case z_str => k_is)
