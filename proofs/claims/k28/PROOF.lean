import PyProof.Rows.All
import Wide.All
import OpenK.AllK
import Wide.FinOn
import HandS.ForMost
import HandS.IsInst
import HandS.Wide
import HandS.Steps
import HandS.Style
import HandS.TupAny
import PySem.Challenge.RW_resttricks_k28_whole_wrong_numbers
set_option Elab.async false
set_option linter.all false
set_option maxRecDepth 100000
set_option maxHeartbeats 4000000
/-! ## the layer: what is owned, step by step -/
namespace R
open PySem PySem.Spec PyProof.Rows L2
open PySem.W (Frag)

def del1 (H : Hp) (a : Addr) : Hp := fun b => if b = a then none else H b
/-- B: what stays; Lw: what this frame may change, as it stands -/
structure Own (B : Hp) (Lw : List (Addr × HO)) (H : Hp) : Prop where
  st : ∀ a o, B a = some o → H a = some o
  ow : ∀ p ∈ Lw, H p.1 = some p.2
  no : ∀ p ∈ Lw, B p.1 = none
  nd : (Lw.map (·.1)).Nodup
theorem Own.refl (H : Hp) : Own H [] H := ⟨fun _ _ h => h, fun _ h => by simp at h, fun _ h => by simp at h, by simp⟩
theorem Own.refl1 {H : Hp} {a : Addr} {o : HO} (h : H a = some o) : Own (del1 H a) [(a, o)] H := by
  refine ⟨fun b u e => ?_, fun p hp => ?_, fun p hp => ?_, by simp⟩
  · unfold del1 at e
    split at e
    · cases e
    · exact e
  · have e : p = (a, o) := by simpa using hp
    rw [e]; exact h
  · have e : p = (a, o) := by simpa using hp
    rw [e]; unfold del1; rw [if_pos rfl]
section
variable {B H H' : Hp} {Lw : List (Addr × HO)} {a b p : Addr} {o u : HO} {K : Frag} {xs : List V}
theorem Own.get (O : Own B Lw H) (i : Nat) (h : Lw[i]? = some (a, o)) : H a = some o := O.ow (a, o) (List.mem_of_getElem? h)
theorem Own.gone (O : Own B Lw H) (i : Nat) (h : Lw[i]? = some (a, o)) : B a = none := O.no (a, o) (List.mem_of_getElem? h)
theorem Own.seq (O : Own B Lw H) (h : SqL K B a xs) : SqL K H a xs := by
  rcases h with (h | ⟨q, h⟩) | h
  · exact .inl (.inl (O.st _ _ h))
  · exact .inl (.inr ⟨q, O.st _ _ h⟩)
  · exact .inr h
theorem Own.tup (O : Own B Lw H) (h : SqT K B a xs) : SqT K H a xs := by
  rcases h with (h | ⟨q, h⟩) | h
  · exact .inl (.inl (O.st _ _ h))
  · exact .inl (.inr ⟨q, O.st _ _ h⟩)
  · exact .inr h
theorem Own.sq (O : Own B Lw H) (i : Nat) (h : Lw[i]? = some (a, .lst xs)) : SqL K H a xs := SqL.of (O.get i h)
theorem Own.tq (O : Own B Lw H) (i : Nat) (h : Lw[i]? = some (a, .tup xs)) : SqT K H a xs := SqT.of (O.get i h)
theorem Own.free (O : Own B Lw H) (h : H p = none) : B p = none := by
  cases q : B p with
  | none => rfl
  | some v => rw [O.st _ _ q] at h; cases h
theorem Own.out (O : Own B Lw H) (h : H p = none) : ∀ q ∈ Lw, q.1 ≠ p := fun q hq z => by
  have e := O.ow q hq
  rw [z, h] at e; cases e
/-- a new object -/
theorem Own.new (O : Own B Lw H) (h : H p = none) : Own B ((p, o) :: Lw) (upd H p o) := by
  refine ⟨fun c v e => ?_, fun q hq => ?_, fun q hq => ?_, ?_⟩
  · rw [upd_ne (ne_of_none (O.st _ _ e) h)]; exact O.st _ _ e
  · rcases List.mem_cons.mp hq with rfl | hq
    · exact upd_same
    · show upd H p o q.1 = _
      rw [upd_ne (O.out h q hq)]; exact O.ow q hq
  · rcases List.mem_cons.mp hq with rfl | hq
    · exact O.free h
    · exact O.no q hq
  · rw [List.map_cons, List.nodup_cons]
    refine ⟨fun z => ?_, O.nd⟩
    obtain ⟨q, hq, e⟩ := List.mem_map.mp z
    exact O.out h q hq e
theorem set_map1 : ∀ {Lw : List (Addr × HO)} {i : Nat} {a : Addr} {o o' : HO}, Lw[i]? = some (a, o) → (Lw.set i (a, o')).map (·.1) = Lw.map (·.1)
  | [], _, _, _, _, h => by simp at h
  | x :: r, 0, a, o, o', h => by
    have e : x = (a, o) := by simpa using h
    rw [e]; rfl
  | x :: r, i + 1, a, o, o', h => by
    have ih := set_map1 (Lw := r) (i := i) (o' := o') (by simpa using h)
    show x.1 :: (r.set i (a, o')).map (·.1) = x.1 :: r.map (·.1)
    rw [ih]
theorem mem_set1 : ∀ {Lw : List (Addr × HO)} {i : Nat} {a : Addr} {o o' : HO} {q : Addr × HO}, (Lw.map (·.1)).Nodup → Lw[i]? = some (a, o) → q ∈ Lw.set i (a, o') → q = (a, o') ∨ (q ∈ Lw ∧ q.1 ≠ a)
  | [], _, _, _, _, _, _, h, _ => by simp at h
  | x :: r, 0, a, o, o', q, nd, h, hq => by
    have e : x = (a, o) := by simpa using h
    subst e
    rw [List.map_cons, List.nodup_cons] at nd
    rcases List.mem_cons.mp hq with rfl | hq
    · exact .inl rfl
    · exact .inr ⟨List.mem_cons_of_mem _ hq, fun z => nd.1 (List.mem_map.mpr ⟨q, hq, z⟩)⟩
  | x :: r, i + 1, a, o, o', q, nd, h, hq => by
    rw [List.map_cons, List.nodup_cons] at nd
    have h' : r[i]? = some (a, o) := by simpa using h
    rcases List.mem_cons.mp (show q ∈ x :: r.set i (a, o') from hq) with rfl | hq
    · refine .inr ⟨List.mem_cons_self, fun z => nd.1 (List.mem_map.mpr ⟨(a, o), List.mem_of_getElem? h', z.symm⟩)⟩
    · rcases mem_set1 nd.2 h' hq with z | ⟨z1, z2⟩
      · exact .inl z
      · exact .inr ⟨List.mem_cons_of_mem _ z1, z2⟩
/-- what is owned is changed by someone who keeps all else -/
theorem Own.but (O : Own B Lw H) (i : Nat) (h : Lw[i]? = some (a, o)) (k : ∀ b v, b ≠ a → H b = some v → H' b = some v) (ha : H' a = some u) : Own B (Lw.set i (a, u)) H' := by
  have hB := O.gone i h
  refine ⟨fun c v e => k c v (fun z => ?_) (O.st _ _ e), fun q hq => ?_, fun q hq => ?_, ?_⟩
  · rw [z, hB] at e; cases e
  · rcases mem_set1 O.nd h hq with rfl | ⟨h1, h2⟩
    · exact ha
    · exact k _ _ h2 (O.ow q h1)
  · rcases mem_set1 O.nd h hq with rfl | ⟨h1, h2⟩
    · exact hB
    · exact O.no q h1
  · rw [set_map1 h]; exact O.nd
theorem Own.put (O : Own B Lw H) (i : Nat) (h : Lw[i]? = some (a, o)) : Own B (Lw.set i (a, u)) (upd H a u) :=
  O.but i h (fun b v hb e => by rw [upd_ne hb]; exact e) upd_same
/-- more stands now -/
theorem Own.same (O : Own B Lw H) (s : Same H H') : Own B Lw H' := ⟨fun c v e => s _ _ (O.st _ _ e), fun q hq => s _ _ (O.ow q hq), O.no, O.nd⟩
theorem Own.tail {x : Addr × HO} (O : Own B (x :: Lw) H) : Own B Lw H := ⟨O.st, fun q hq => O.ow q (List.mem_cons_of_mem _ hq), fun q hq => O.no q (List.mem_cons_of_mem _ hq), (List.nodup_cons.mp (by simpa using O.nd)).2⟩
theorem Own.tail2 {x y : Addr × HO} (O : Own B (y :: x :: Lw) H) : Own B (y :: Lw) H := by
  have hn := O.nd
  simp only [List.map_cons, List.nodup_cons, List.mem_cons, not_or] at hn
  refine ⟨O.st, fun q hq => O.ow q ?_, fun q hq => O.no q ?_, ?_⟩
  · rcases List.mem_cons.mp hq with rfl | hq
    · exact List.mem_cons_self
    · exact List.mem_cons_of_mem _ (List.mem_cons_of_mem _ hq)
  · rcases List.mem_cons.mp hq with rfl | hq
    · exact List.mem_cons_self
    · exact List.mem_cons_of_mem _ (List.mem_cons_of_mem _ hq)
  · simp only [List.map_cons, List.nodup_cons]
    exact ⟨hn.1.2, hn.2.2⟩
theorem Own.toSame (O : Own H Lw H') : Same H H' := O.st
/-- at the end: all but a is as it was -/
theorem Own.toBut (O : Own (del1 H a) Lw H') : ∀ b v, b ≠ a → H b = some v → H' b = some v := fun b v hb e => O.st b v (by unfold del1; rw [if_neg hb]; exact e)
theorem del1_seq {o : HO} (h : SqL K H b xs) (ha : H a = some o) (ho : ∀ ys, o ≠ .lst ys ∨ b ≠ a) (hf : ∀ q w, o ≠ .frz q w) (hb : b ≠ a) : SqL K (del1 H a) b xs := by
  rcases h with (h | ⟨q, h⟩) | h
  · exact .inl (.inl (by unfold del1; rw [if_neg hb]; exact h))
  · exact .inl (.inr ⟨q, by unfold del1; rw [if_neg hb]; exact h⟩)
  · exact .inr h
theorem del1_ne {H : Hp} {a b : Addr} (h : b ≠ a) : del1 H a b = H b := by unfold del1; rw [if_neg h]
end
end R
namespace R
open PySem L2
theorem Own.swap {B H : Hp} {Lw : List (Addr × HO)} {x y : Addr × HO} (O : Own B (x :: y :: Lw) H) : Own B (y :: x :: Lw) H := by
  refine ⟨O.st, fun q hq => O.ow q ?_, fun q hq => O.no q ?_, ?_⟩
  · simp only [List.mem_cons] at hq ⊢
    rcases hq with z | z | z
    · exact .inr (.inl z)
    · exact .inl z
    · exact .inr (.inr z)
  · simp only [List.mem_cons] at hq ⊢
    rcases hq with z | z | z
    · exact .inr (.inl z)
    · exact .inl z
    · exact .inr (.inr z)
  · have h := O.nd
    simp only [List.map_cons, List.nodup_cons, List.mem_cons, not_or] at h ⊢
    exact ⟨⟨fun z => h.1.1 z.symm, h.2.1⟩, h.1.2, h.2.2⟩
end R
namespace R
open PySem L2
open PySem.W (Frag)
section
variable {B H H' : Hp} {Lw : List (Addr × HO)} {p : Addr} {o : HO} {K : Frag}
/-- what is owned is let stand for good -/
theorem Own.fix (O : Own B ((p, o) :: Lw) H) : Own (upd B p o) Lw H := by
  have hn := O.nd
  simp only [List.map_cons, List.nodup_cons] at hn
  refine ⟨fun a v e => ?_, fun q hq => O.ow q (List.mem_cons_of_mem _ hq), fun q hq => ?_, hn.2⟩
  · by_cases h : a = p
    · subst h
      rw [upd_same] at e
      rw [← e]
      exact O.ow (a, o) List.mem_cons_self
    · rw [upd_ne h] at e; exact O.st _ _ e
  · have ne : q.1 ≠ p := fun z => hn.1 (List.mem_map.mpr ⟨q, hq, z⟩)
    rw [upd_ne ne]; exact O.no q (List.mem_cons_of_mem _ hq)
theorem Own.fixS (O : Own B ((p, o) :: Lw) H) : Same B (upd B p o) := fun b v e => by
  have h : B p = none := O.no (p, o) List.mem_cons_self
  rw [upd_ne (ne_of_none e h)]; exact e
theorem Own.sub {B' : Hp} (O : Own B' Lw H) (s : Same B B') : Own B Lw H := ⟨fun a v e => O.st _ _ (s _ _ e), O.ow, fun q hq => s.free (O.no q hq), O.nd⟩
end
mutual
theorem dp_same {K : Frag} {H H' : Hp} (s : Same H H') : ∀ (d : PyData) (v : V), Dp K H v d → Dp K H' v d
  | .none, _, h => by cases h; exact .non
  | .bool b, _, h => by cases h; exact .bl b
  | .int i, _, h => by cases h; exact .int i
  | .str x, _, h => by cases h; exact .str x
  | .list ds, _, h => by
    cases h with
    | lst h1 h2 => exact .lst (s.seq h1) (dpAll_same s ds _ h2)
  | .tuple ds, _, h => by
    cases h with
    | tup h1 h2 =>
      refine .tup ?_ (dpAll_same s ds _ h2)
      rcases h1 with (h | ⟨q, h⟩) | h
      · exact .inl (.inl (s _ _ h))
      · exact .inl (.inr ⟨q, s _ _ h⟩)
      · exact .inr h
  | .dict _, _, h => by cases h
theorem dpAll_same {K : Frag} {H H' : Hp} (s : Same H H') : ∀ (ds : List PyData) (vs : List V), DpAll K H vs ds → DpAll K H' vs ds
  | [], _, h => by cases h; exact .nil
  | d :: ds, _, h => by
    cases h with
    | cons h1 h2 => exact .cons (dp_same s d _ h1) (dpAll_same s ds _ h2)
end
end R

namespace R
open PySem PySem.Spec PyProof.Rows L2
open PySem.W (Frag)
/-! ### rules of our own -/
theorem op_mulX {X : Cx} : OpR X (binaryOp .Mult) (rI IntMulOk fun i j => .int (i * j)) := opI fun _ _ _ _ _ _ _ hc q => mul_int q hc
theorem mx_l {i j : Int} (h1 : -(2 ^ 64) < i) (h2 : i < 2 ^ 64) : IntMulOk i j := CMul.ok (.inl ⟨h1, h2⟩)
theorem mx_r {i j : Int} (h1 : -(2 ^ 64) < j) (h2 : j < 2 ^ 64) : IntMulOk i j := CMul.ok (.inr ⟨h1, h2⟩)
theorem pe_globI {X : Cx} {x : Str} {i : Int} {pos : Pos} (hg : Gl X x) (hm : ∃ t, X.mg x = some (.int i t)) (hd : (x == ("__debug__" : Str)) = false := by decide) : PE X (.Name x pos) (tC (.int i)) := by
  obtain ⟨t, h⟩ := hm
  exact pe_glob hg h ⟨t, rfl⟩ hd
/-- len, tuple(..), list(..) of a list or tuple -/
def rLen (K : Frag) : List V → Hp → VK → Prop := fun xs H Q => ∃ p ys, xs = [.ref p] ∧ (SqL K H p ys ∨ SqT K H p ys) ∧ Q (.int ys.length) H
theorem call_lenR {X : Cx} : CallR X (.builtin "len") (rLen X.K) := call_len_seq
def rAbs : List V → Hp → VK → Prop := fun xs H Q => ∃ i, xs = [.int i] ∧ Q (.int (if i < 0 then -i else i)) H
theorem call_absR {X : Cx} : CallR X (.builtin "abs") rAbs := call_abs
def rTupOf (K : Frag) : List V → Hp → VK → Prop := fun xs H Q => ∃ p ys, xs = [.ref p] ∧ ((SqL K H p ys ∧ ∀ l, H l = none → Q (.ref l) (upd H l (.tup ys))) ∨ (SqT K H p ys ∧ Q (.ref p) H))
theorem call_tupR {X : Cx} : CallR X (.type "tuple") (rTupOf X.K) := call_tuple_of
def rLstOf (K : Frag) : List V → Hp → VK → Prop := fun xs H Q => ∃ p ys, xs = [.ref p] ∧ (SqL K H p ys ∨ SqT K H p ys) ∧ ∀ l, H l = none → Q (.ref l) (upd H l (.lst ys))
theorem call_lstR {X : Cx} : CallR X (.type "list") (rLstOf X.K) := call_list_of
/-! ### the steps -/
/-- a new list, a new tuple -/
def NewL (xs : List V) (H : Hp) (Q : VK) : Prop := xs.length ≤ sizeLine ∧ ∀ p, H p = none → Q (.ref p) (upd H p (.lst xs))
def NewT (xs : List V) (H : Hp) (Q : VK) : Prop := xs.length ≤ sizeLine ∧ ∀ p, H p = none → Q (.ref p) (upd H p (.tup xs))
section
variable {t u : TS} {D : Ends} {σ : L2.St} {H : Hp} {te ta tb tc : TE} {g : TG} {c d : TT} {Q : VK} {v x y : V} {i : Nat} {r r' : R2} {QB : Bool → Hp → Prop} {QL : List V → Hp → Prop} {K : Frag} {tr : TA} {tl th : TO}
theorem a_seq (h : t { D with nx := u D } σ H) : tSeq t u D σ H := h
theorem a_next (h : D.nx σ H) : tNext D σ H := h
theorem a_asg (h : te σ H fun x H1 => g x σ H1 D.nx) : tAsg te g D σ H := h
theorem a_gname {Qs : L2.St → Hp → Prop} (h : Qs (σ.set i (some v)) H) : gName i v σ H Qs := h
theorem a_drop (h : te σ H fun _ H1 => D.nx σ H1) : tDrop te D σ H := h
theorem a_ret (h : te σ H D.rt) : tRet te D σ H := h
theorem a_retN (h : D.rt .non H) : tRetN D σ H := h
theorem a_if (h : c σ H fun b H1 => if b = true then t D σ H1 else u D σ H1) : tIfS c t u D σ H := h
theorem a_var (e : σ[i]? = some (some v)) (h : Q v H) : tVar i σ H Q := ⟨v, e, h⟩
theorem a_c (h : Q v H) : tC v σ H Q := h
theorem a_op (h : ta σ H fun x H1 => tb σ H1 fun y H2 => r x y H2 Q) : tOp r ta tb σ H Q := h
theorem a_un {f : V → Hp → VK → Prop} (h : ta σ H fun x H1 => f x H1 Q) : tUn f ta σ H Q := h
theorem a_neg {n : Int} (h : Q (.int (-n)) H) : rU (fun i => .int (-i)) (.int n) H Q := ⟨n, rfl, h⟩
theorem a_test (h : te σ H fun x H' => ∃ k, x = .bl k ∧ QB k H') : tTest te σ H QB := h
theorem a_tB (h : te σ H fun x H' => ∃ k, x = .bl k ∧ QB k H') : tB te σ H QB := h
theorem a_bk {b : Bool} (h : QB b H) : ∃ k, V.bl b = .bl k ∧ QB k H := ⟨b, rfl, h⟩
theorem a_and (h : c σ H fun b H1 => if b = true then d σ H1 QB else QB false H1) : tAnd c d σ H QB := h
theorem a_or (h : c σ H fun b H1 => if b = true then QB true H1 else d σ H1 QB) : tOr c d σ H QB := h
theorem a_not (h : c σ H fun b H1 => QB (!b) H1) : tNot c σ H QB := h
theorem a_andV (h : ta σ H fun x H1 => ∃ b, x = .bl b ∧ if b = true then tb σ H1 Q else Q (.bl false) H1) : tAndV ta tb σ H Q := h
theorem a_orV (h : ta σ H fun x H1 => ∃ b, x = .bl b ∧ if b = true then Q (.bl true) H1 else tb σ H1 Q) : tOrV ta tb σ H Q := h
theorem a_notV (h : ta σ H fun x H1 => ∃ b, x = .bl b ∧ Q (.bl (!b)) H1) : tNotV ta σ H Q := h
theorem a_bv {b : Bool} {A : Bool → Prop} (h : A b) : ∃ k, V.bl b = .bl k ∧ A k := ⟨b, rfl, h⟩
theorem a_ifE (h : c σ H fun b H1 => if b = true then ta σ H1 Q else tb σ H1 Q) : tIf c ta tb σ H Q := h
theorem a_nil (h : QL [] H) : tNil σ H QL := h
theorem a_cons (h : te σ H fun x H1 => tr σ H1 fun xs H2 => QL (x :: xs) H2) : tCons te tr σ H QL := h
theorem a_tup (h : tr σ H fun xs H1 => NewT xs H1 Q) : tTup tr σ H Q := h
theorem a_lst (h : tr σ H fun xs H1 => NewL xs H1 Q) : tLst tr σ H Q := h
theorem a_cb {f : List V → Hp → VK → Prop} (h : tr σ H fun vs H1 => f vs H1 Q) : tCB f tr σ H Q := h
theorem a_call {sp : Sp} {dvs : List V} {E : XK} (h : tr σ H fun vs H1 => sp (vs ++ dvs) H1 Q E) : tCall sp dvs E tr σ H Q := h
theorem a_chain (h : ta σ H fun x H1 => tb σ H1 fun y H2 => r x y H2 fun z H3 => ∃ k, z = .bl k ∧ (if k = true then tc σ H3 fun w' H4 => r' y w' H4 Q else Q (.bl false) H3)) : tChain r r' ta tb tc σ H Q := h
theorem a_sl {f : V → Option Int → Option Int → Hp → VK → Prop} (h : te σ H fun x H1 => tl σ H1 fun l H2 => th σ H2 fun u H3 => f x l u H3 Q) : tSl f te tl th σ H Q := h
theorem a_npart {Qo : Option Int → Hp → Prop} (h : Qo none H) : tNoPart σ H Qo := h
theorem a_part {Qo : Option Int → Hp → Prop} (h : te σ H fun x H1 => ∃ i, x = .int i ∧ Qo (some i) H1) : tPart te σ H Qo := h
theorem a_ik {n : Int} {A : Int → Prop} (h : A n) : ∃ i, V.int n = .int i ∧ A i := ⟨n, rfl, h⟩
theorem a_gsub {to ti : TE} {ts : TSet} {Qs : L2.St → Hp → Prop} (h : to σ H fun o H1 => ti σ H1 fun i H2 => ts o i v H2 fun H3 => Qs σ H3) : gSub to ti ts v σ H Qs := h
theorem a_bm {T : String} {f : V → List V → Hp → VK → Prop} {to : TE} (h : to σ H fun x H1 => tyV K T x H1 ∧ tr σ H1 fun xs H2 => f x xs H2 Q) : tBM K T f to tr σ H Q := h
theorem a_bm0 {T : String} {f : V → List V → Hp → VK → Prop} {to : TE} (h : to σ H fun x H1 => tyV K T x H1 ∧ f x [] H1 Q) : tBM0 K T f to σ H Q := h
theorem a_par {a b : Nat} (h : tr σ H fun vs H1 => ∃ v w, vs = [v, w] ∧ D.nx ((σ.set a (some v)).set b (some w)) H1) : tPar a b tr D σ H := h
theorem a_par2 {A : V → V → Prop} (h : A x y) : ∃ v w, [x, y] = [v, w] ∧ A v w := ⟨x, y, rfl, h⟩
theorem a_for {wi : TI} (h : wi σ H fun J H1 => ∃ W : Nat → Nat → L2.St → Hp → Prop, (∃ m, W 0 m σ H1) ∧ ∀ i m σ H, W i m σ H →
  (J.stop i H ∧ D.nx σ H) ∨ (J.go i H ∧ ∃ N : L2.St → Hp → Prop, (∀ σ' H', N σ' H' → ∃ m', m' < m ∧ W (i + 1) m' σ' H') ∧ ∀ x H', J.yld i H x H' → g x σ H' fun σ2 H2 => t { D with nx := N, ct := N, bk := D.nx } σ2 H2)) : tFor wi g t D σ H := h
theorem a_rng1 {RR : It → Hp → Prop} (h : tr σ H fun vs H1 => ∃ j : Int, vs = [.int j] ∧ -(2 ^ 62) ≤ j ∧ j < 2 ^ 62 ∧ RR (Itr 0 j.toNat) H1) : iRng1 tr σ H RR := h
theorem a_rng1' {j : Int} {A : Int → Prop} (h1 : -(2 ^ 62) ≤ j) (h2 : j < 2 ^ 62) (h : A j) : ∃ k : Int, [V.int j] = [.int k] ∧ -(2 ^ 62) ≤ k ∧ k < 2 ^ 62 ∧ A k := ⟨j, rfl, h1, h2, h⟩
theorem a_rng2 {RR : It → Hp → Prop} (h : tr σ H fun vs H1 => ∃ i j : Int, vs = [.int i, .int j] ∧ (-(2 ^ 62) ≤ i ∧ i < 2 ^ 62 ∧ -(2 ^ 62) ≤ j ∧ j < 2 ^ 62) ∧ RR (Itr i (j - i).toNat) H1) : iRng2 tr σ H RR := h
theorem a_rng2' {i j : Int} {A : Int → Int → Prop} (h1 : -(2 ^ 62) ≤ i ∧ i < 2 ^ 62 ∧ -(2 ^ 62) ≤ j ∧ j < 2 ^ 62) (h : A i j) : ∃ a b : Int, [V.int i, V.int j] = [.int a, .int b] ∧ (-(2 ^ 62) ≤ a ∧ a < 2 ^ 62 ∧ -(2 ^ 62) ≤ b ∧ b < 2 ^ 62) ∧ A a b := ⟨i, j, rfl, h1, h⟩
theorem a_lc {wi : TI} {tt : TT} {vs : List Nat} (h : wi σ H fun J H1 => ∀ D, H1 D = none → ∃ W : Nat → Nat → Hp → Prop, (∃ m, W 0 m (upd H1 D (.lst []))) ∧ ∀ i m H, W i m H →
  (J.stop i H ∧ Q (.ref D) H) ∨ (J.go i H ∧ ∃ Nx : Hp → Prop, (∀ H', Nx H' → ∃ m', m' < m ∧ W (i + 1) m' H') ∧ ∀ x H', J.yld i H x H' → g x (wipe σ vs) H' fun σ2 H2 => wipe σ2 vs = wipe σ vs ∧ tt σ2 H2 fun b H3 =>
    if b = true then te σ2 H3 fun y H4 => ∃ acc, H4 D = some (.lst acc) ∧ acc.length < sizeLine ∧ Nx (upd H4 D (.lst (acc ++ [y]))) else Nx H3)) : tLc wi g tt te vs σ H Q := h
theorem a_gtup {n : Nat} {gs : TGs} {p : Addr} {xs : List V} {Qs : L2.St → Hp → Prop} (hs : SqT K H p xs) (hl : xs.length = n) (h : gs xs σ H Qs) : gTup K n gs (.ref p) σ H Qs := ⟨p, xs, rfl, hs, hl, h⟩
theorem a_gcons {gs : TGs} {vs : List V} {Qs : L2.St → Hp → Prop} (h : g v σ H fun σ' H' => gs vs σ' H' Qs) : gCons g gs (v :: vs) σ H Qs := ⟨v, vs, rfl, h⟩
theorem a_gnil {Qs : L2.St → Hp → Prop} (h : Qs σ H) : gNil [] σ H Qs := ⟨rfl, h⟩
theorem a_yes (h : QB true H) : tYes σ H QB := h
-- by values
theorem a_I0 {f : Int → Int → V} {m n : Int} (h : Q (f m n) H) : rI0 f (.int m) (.int n) H Q := ⟨m, n, rfl, rfl, h⟩
theorem a_I {C : Int → Int → Prop} {f : Int → Int → V} {m n : Int} (hc : C m n) (h : Q (f m n) H) : rI C f (.int m) (.int n) H Q := ⟨m, n, rfl, rfl, hc, h⟩
theorem a_eqI {m n : Int} (h : Q (.bl (decide (m = n))) H) : rEq (.int m) (.int n) H Q := ⟨rfl, by
  have e : decide (V.int m = V.int n) = decide (m = n) := by rw [dec_int, Bool.beq_eq_decide_eq]
  rw [e]; exact h⟩
theorem a_neI {m n : Int} (h : Q (.bl (!decide (m = n))) H) : rNe (.int m) (.int n) H Q := ⟨rfl, by
  have e : decide (V.int m = V.int n) = decide (m = n) := by rw [dec_int, Bool.beq_eq_decide_eq]
  rw [e]; exact h⟩
theorem a_isN1 (h : Q (.bl true) H) : rIsN .non .non H Q := ⟨rfl, h⟩
theorem a_isN0 (hx : x ≠ .non) (h : Q (.bl false) H) : rIsN x .non H Q := ⟨rfl, by rw [decide_eq_false hx]; exact h⟩
theorem a_notN1 (h : Q (.bl false) H) : rNotN .non .non H Q := ⟨rfl, h⟩
theorem a_notN0 (hx : x ≠ .non) (h : Q (.bl true) H) : rNotN x .non H Q := ⟨rfl, by rw [decide_eq_false hx]; exact h⟩
theorem a_ixL {p : Addr} {xs : List V} {n : Int} (hs : SqL K H p xs) (ha : atI xs n = some v) (h : Q v H) : rIxL K (.ref p) (.int n) H Q := ⟨p, xs, n, v, rfl, rfl, hs, ha, h⟩
theorem a_ixT {p : Addr} {xs : List V} {n : Int} (hs : SqT K H p xs) (ha : atI xs n = some v) (h : Q v H) : rIxT K (.ref p) (.int n) H Q := ⟨p, xs, n, v, rfl, rfl, hs, ha, h⟩
theorem a_setL {B : Hp} {Lw : List (Addr × HO)} {p : Addr} {xs : List V} {n : Int} {j : Nat} {Qh : Hp → Prop} (O : Own B Lw H) (i : Nat) (h : Lw[i]? = some (p, .lst xs)) (hj : ixN xs.length n = some j)
    (q : ∀ H', Own B (Lw.set i (p, .lst (xs.set j v))) H' → Qh H') : rSetL (.ref p) (.int n) v H Qh := ⟨p, xs, n, j, rfl, rfl, O.get i h, hj, q _ (O.put i h)⟩
theorem a_app {B : Hp} {Lw : List (Addr × HO)} {p : Addr} {xs : List V} (O : Own B Lw H) (i : Nat) (h : Lw[i]? = some (p, .lst xs)) (hl : xs.length ≤ 1000000)
    (q : ∀ H', Own B (Lw.set i (p, .lst (xs ++ [y]))) H' → Q .non H') : rAppend (.ref p) [y] H Q := ⟨p, xs, y, rfl, rfl, O.get i h, Nat.lt_of_le_of_lt hl (by decide), q _ (O.put i h)⟩
theorem a_mkL {B : Hp} {Lw : List (Addr × HO)} {xs : List V} (O : Own B Lw H) (hl : xs.length ≤ 1000000) (q : ∀ p H', H p = none → Own B ((p, .lst xs) :: Lw) H' → Q (.ref p) H') : NewL xs H Q :=
  ⟨Nat.le_trans hl (by decide), fun p hp => q p _ hp (O.new hp)⟩
theorem a_mkT {B : Hp} {Lw : List (Addr × HO)} {xs : List V} (O : Own B Lw H) (hl : xs.length ≤ 1000000) (q : ∀ p H', H p = none → Own B ((p, .tup xs) :: Lw) H' → Q (.ref p) H') : NewT xs H Q :=
  ⟨Nat.le_trans hl (by decide), fun p hp => q p _ hp (O.new hp)⟩
theorem a_int1 {n : Int} {A : Int → Prop} {C : Prop} (h : A n) : (∃ i, [V.int n] = [V.int i] ∧ A i) ∨ C := .inl ⟨n, rfl, h⟩
theorem a_len {q : Addr} {ys : List V} (hs : SqL K H q ys ∨ SqT K H q ys) (h : Q (.int ys.length) H) : rLen K [V.ref q] H Q := ⟨q, ys, rfl, hs, h⟩
theorem a_sum {a : Addr} {ns : List Int} (hs : SqL K H a (ns.map V.int)) (h : Q (.int ns.sum) H) : rSum K [V.ref a] H Q := ⟨a, ns, rfl, hs, h⟩
theorem a_tupL {B : Hp} {Lw : List (Addr × HO)} {a : Addr} {xs : List V} (O : Own B Lw H) (hs : SqL K H a xs) (h : ∀ p H', H p = none → Own B ((p, .tup xs) :: Lw) H' → Q (.ref p) H') : rTupOf K [V.ref a] H Q := ⟨a, xs, rfl, .inl ⟨hs, fun l hl => h l _ hl (O.new hl)⟩⟩
theorem a_tupT {a : Addr} {xs : List V} (hs : SqT K H a xs) (h : Q (.ref a) H) : rTupOf K [V.ref a] H Q := ⟨a, xs, rfl, .inr ⟨hs, h⟩⟩
theorem a_lstO {B : Hp} {Lw : List (Addr × HO)} {a : Addr} {xs : List V} (O : Own B Lw H) (hs : SqL K H a xs ∨ SqT K H a xs) (h : ∀ p H', H p = none → Own B ((p, .lst xs) :: Lw) H' → Q (.ref p) H') : rLstOf K [V.ref a] H Q := ⟨a, xs, rfl, hs, fun l hl => h l _ hl (O.new hl)⟩
theorem a_pow {m n : Int} {k : Nat} (hn : n = (k : Int)) (hk : k ≤ 1000000) (hm : m.natAbs < 2 ^ 64) (h : Q (.int (m ^ k)) H) : rI CPow (fun i j => .int (i ^ j.toNat)) (.int m) (.int n) H Q := by
  subst hn
  exact ⟨m, k, rfl, rfl, ⟨by omega, by omega, hm⟩, h⟩
theorem a_abs {n : Int} (h : Q (.int (n.natAbs : Int)) H) : rAbs [V.int n] H Q := ⟨n, rfl, by
  have e : (if n < 0 then -n else n) = (n.natAbs : Int) := by split <;> omega
  rw [e]; exact h⟩
-- tests
theorem a_tt {A B : Prop} (h : A) : if true = true then A else B := by rw [if_pos rfl]; exact h
theorem a_ff {A B : Prop} (h : B) : if false = true then A else B := by rw [if_neg Bool.false_ne_true]; exact h
theorem a_nt {A B : Prop} (h : B) : if (!true) = true then A else B := a_ff h
theorem a_nf {A B : Prop} (h : A) : if (!false) = true then A else B := a_tt h
theorem a_itT {p A B : Prop} [Decidable p] (hp : p) (h : A) : if decide p = true then A else B := by rw [if_pos (decide_eq_true hp)]; exact h
theorem a_itF {p A B : Prop} [Decidable p] (hp : ¬ p) (h : B) : if decide p = true then A else B := by rw [if_neg (by rw [decide_eq_false hp]; decide)]; exact h
theorem a_it2 {p A B : Prop} [Decidable p] (h1 : p → A) (h2 : ¬ p → B) : if decide p = true then A else B := by
  by_cases hp : p
  · exact a_itT hp (h1 hp)
  · exact a_itF hp (h2 hp)
theorem a_niT {p A B : Prop} [Decidable p] (hp : p) (h : B) : if (!decide p) = true then A else B := by rw [decide_eq_true hp]; exact a_nt h
theorem a_niF {p A B : Prop} [Decidable p] (hp : ¬ p) (h : A) : if (!decide p) = true then A else B := by rw [decide_eq_false hp]; exact a_nf h
theorem a_ni2 {p A B : Prop} [Decidable p] (h1 : p → B) (h2 : ¬ p → A) : if (!decide p) = true then A else B := by
  by_cases hp : p
  · exact a_niT hp (h1 hp)
  · exact a_niF hp (h2 hp)
theorem a_itB {b : Bool} {A B : Prop} (h1 : b = true → A) (h2 : b = false → B) : if b = true then A else B := by
  cases b with
  | true => exact a_tt (h1 rfl)
  | false => exact a_ff (h2 rfl)
theorem a_niB {b : Bool} {A B : Prop} (h1 : b = true → B) (h2 : b = false → A) : if (!b) = true then A else B := by
  cases b with
  | true => exact a_nt (h1 rfl)
  | false => exact a_nf (h2 rfl)
theorem a_cT {p q A B : Prop} [Decidable p] [Decidable q] (hp : p) (hq : q) (h : A) : if (decide p && decide q) = true then A else B := by rw [decide_eq_true hp, decide_eq_true hq]; exact a_tt h
theorem a_cF {p q A B : Prop} [Decidable p] [Decidable q] (hp : ¬ (p ∧ q)) (h : B) : if (decide p && decide q) = true then A else B := by
  by_cases h1 : p
  · rw [decide_eq_true h1, decide_eq_false (fun z => hp ⟨h1, z⟩)]; exact a_ff h
  · rw [decide_eq_false h1]; exact a_ff h
theorem a_ncT {p q A B : Prop} [Decidable p] [Decidable q] (hp : p) (hq : q) (h : B) : if (!(decide p && decide q)) = true then A else B := by rw [decide_eq_true hp, decide_eq_true hq]; exact a_nt h
theorem a_isiI {i : Int} (h : Q (.bl true) H) : rIsi K [.int i, .ty "int"] H Q := ⟨_, _, .type "int", .type "int", true, rfl, .ty _, .base (.int i), kit_ty (by decide +kernel), h⟩
theorem a_isiB {i : Int} (h : Q (.bl false) H) : rIsi K [.int i, .ty "bool"] H Q := ⟨_, _, .type "int", .type "bool", false, rfl, .ty _, .base (.int i), kit_ty (by decide +kernel), h⟩
end
theorem divW {m n : Int} (h : 0 < n) (h' : n < 10 ^ 60) : CDivW m n := wide_div (b := 200) h (by
  have q : (10 : Int) ^ 60 < 2 ^ 200 := by decide
  have r : n < 2 ^ 200 := Int.lt_trans h' q
  omega) (by decide) (by decide)
theorem at0 {α : Type} {xs : List α} {n : Int} {j : Nat} {v : α} (e : n = (j : Int)) (h : xs[j]? = some v) : atI xs n = some v := by
  rw [e]; exact atI_nat h
end R
namespace R
open PySem PySem.Spec PyProof.Rows L2
theorem mx_w {i j : Int} (a b : Nat) (ha : i.natAbs < 2 ^ a) (hb : j.natAbs < 2 ^ b) (h0 : 0 < a := by decide) (h1 : 0 < b := by decide) (h : a + b ≤ 1000000 := by decide) : IntMulOk i j := (wide_mul ha hb h0 h1 h).ok
end R
namespace R
open PySem PySem.Spec PyProof.Rows L2
open PySem.W (Frag)
section
variable {K : Frag} {B H : Hp} {Lw : List (Addr × HO)} {p : Addr} {z : Int} {Q : VK}
/-- an item of a written list at a drawn place -/
theorem a_ixV {xs : List V} (O : Own B Lw H) (i : Nat) (h : Lw[i]? = some (p, .lst xs)) (h0 : 0 ≤ z) (h1 : z < xs.length) (q : ∀ v, v ∈ xs → Q v H) : rIxL K (.ref p) (.int z) H Q := by
  have e : z.toNat < xs.length := by omega
  exact a_ixL (O.sq i h) (at0 (j := z.toNat) (by omega) (List.getElem?_eq_getElem e)) (q _ (List.getElem_mem e))
theorem a_ixM {ms : List Int} (O : Own B Lw H) (i : Nat) (h : Lw[i]? = some (p, .lst (ms.map V.int))) (h0 : 0 ≤ z) (h1 : z < ms.length) (q : ∀ m, m ∈ ms → Q (.int m) H) : rIxL K (.ref p) (.int z) H Q :=
  a_ixV O i h h0 (by rw [List.length_map]; exact h1) fun v hv => by
    obtain ⟨m, hm, rfl⟩ := List.mem_map.mp hv
    exact q m hm
end
end R
namespace R
open PySem PySem.Spec PyProof.Rows L2
open PySem.W (Frag)
section
variable {K : Frag} {B H : Hp} {Lw : List (Addr × HO)} {p : Addr} {z : Int} {Q : VK}
/-- an item of a list of ints -/
theorem a_ixI {ms : List Int} (O : Own B Lw H) (i : Nat) (h : Lw[i]? = some (p, .lst (ms.map V.int))) (h0 : 0 ≤ z) (h1 : z.toNat < ms.length) (q : Q (.int (ms[z.toNat])) H) : rIxL K (.ref p) (.int z) H Q :=
  a_ixL (O.sq i h) (at0 (j := z.toNat) (by omega) (by rw [List.getElem?_map, List.getElem?_eq_getElem h1]; rfl)) q
end
end R
namespace R
open PySem PySem.Spec PyProof.Rows L2
/-- an if whose test comes out one way on all ways -/
theorem a_ifNo {c : TT} {t u : TS} {D : Ends} {σ : L2.St} {H : Hp} (hc : ∀ QB : Bool → Hp → Prop, QB false H → c σ H QB) (h : u D σ H) : tIfS c t u D σ H := hc _ (a_ff h)
theorem a_ifYes {c : TT} {t u : TS} {D : Ends} {σ : L2.St} {H : Hp} (hc : ∀ QB : Bool → Hp → Prop, QB true H → c σ H QB) (h : t D σ H) : tIfS c t u D σ H := hc _ (a_tt h)
theorem a_ifNoH {c : TT} {t u : TS} {D : Ends} {σ : L2.St} {H : Hp} (P : Hp → Prop) (hc : ∀ QB : Bool → Hp → Prop, (∀ H', P H' → QB false H') → c σ H QB) (h : ∀ H', P H' → u D σ H') : tIfS c t u D σ H := hc _ fun H' p => a_ff (h H' p)
end R
namespace R
open PySem PySem.Spec PyProof.Rows L2
theorem q_F {p : Prop} [Decidable p] {QB : Bool → Hp → Prop} {H : Hp} (hq : QB false H) (hp : ¬ p) : QB (decide p) H := by rw [decide_eq_false hp]; exact hq
theorem q_T {p : Prop} [Decidable p] {QB : Bool → Hp → Prop} {H : Hp} (hq : QB true H) (hp : p) : QB (decide p) H := by rw [decide_eq_true hp]; exact hq
theorem q_nT {p : Prop} [Decidable p] {QB : Bool → Hp → Prop} {H : Hp} (hq : QB false H) (hp : p) : QB (!decide p) H := by rw [decide_eq_true hp]; exact hq
theorem q_nF {p : Prop} [Decidable p] {QB : Bool → Hp → Prop} {H : Hp} (hq : QB true H) (hp : ¬ p) : QB (!decide p) H := by rw [decide_eq_false hp]; exact hq
end R

namespace R
/-! ## the first one of a row -/
theorem find_more {α : Type} {g : Nat → Option α} {i : Nat} (h : (List.range i).findSome? g = none) (e : g i = none) : (List.range (i + 1)).findSome? g = none := by
  rw [List.range_succ, List.findSome?_append, h]
  simp [e]
theorem find_hit {α : Type} {g : Nat → Option α} {i : Nat} {x : α} (h : (List.range i).findSome? g = none) (e : g i = some x) : ∀ n : Nat, i < n → (List.range n).findSome? g = some x := by
  intro n
  induction n with
  | zero => intro z; omega
  | succ n ih =>
    intro z
    rw [List.range_succ, List.findSome?_append]
    by_cases q : i = n
    · rw [← q, h]; simp [e]
    · rw [ih (by omega)]; rfl
theorem pow_bits {b : Int} {n m : Nat} (h0 : 0 ≤ b) (h1 : b ≤ 16) (hn : n ≤ m) : (b ^ n).natAbs < 2 ^ (4 * m + 1) := by
  rw [Int.natAbs_pow]
  have e1 : b.natAbs ≤ 16 := by omega
  have e2 : b.natAbs ^ n ≤ 16 ^ n := Nat.pow_le_pow_left e1 n
  have e3 : (16 : Nat) ^ n = 2 ^ (4 * n) := by rw [Nat.pow_mul]
  have e4 : (2 : Nat) ^ (4 * n) ≤ 2 ^ (4 * m) := Nat.pow_le_pow_right (by decide) (by omega)
  have e5 : (2 : Nat) ^ (4 * m + 1) = 2 ^ (4 * m) * 2 := Nat.pow_succ ..
  have e6 : 0 < (2 : Nat) ^ (4 * m) := Nat.pow_pos (by decide)
  omega
end R
namespace R
theorem find_ext {α : Type} {g : Nat → Option α} {n : Nat} : ∀ m : Nat, n ≤ m → (∀ i, n ≤ i → i < m → g i = none) → (List.range m).findSome? g = (List.range n).findSome? g := by
  intro m
  induction m with
  | zero => intro h _; rw [Nat.le_zero.mp h]
  | succ m ih =>
    intro h k
    by_cases e : n = m + 1
    · rw [e]
    · rw [List.range_succ, List.findSome?_append, ih (by omega) fun i h1 h2 => k i h1 (by omega)]
      simp [k m (by omega) (by omega)]
theorem find_same {α : Type} {g g' : Nat → Option α} : ∀ n : Nat, (∀ i, i < n → g i = g' i) → (List.range n).findSome? g = (List.range n).findSome? g' := by
  intro n
  induction n with
  | zero => intro _; rfl
  | succ n ih =>
    intro k
    rw [List.range_succ, List.findSome?_append, List.findSome?_append, ih fun i h => k i (by omega)]
    simp [k n (by omega)]
/-- the first hit: all of the rows ahead of i, and j of row i -/
def fst2 (h : Nat → Nat → Option Int) (B i j : Nat) : Option (Nat × Int) :=
  ((List.range i).findSome? fun p => ((List.range B).findSome? (h p)).map fun x => (p, x)).or (((List.range j).findSome? (h i)).map fun x => (i, x))
theorem fst2_yes {h : Nat → Nat → Option Int} {B i j : Nat} {x : Int} (e : h i j = some x) : fst2 h B i (j + 1) = (fst2 h B i j).or (some (i, x)) := by
  unfold fst2
  rw [List.range_succ, List.findSome?_append]
  cases (List.range i).findSome? fun p => ((List.range B).findSome? (h p)).map fun x => (p, x) <;> cases (List.range j).findSome? (h i) <;> simp [e]
theorem fst2_no {h : Nat → Nat → Option Int} {B i j : Nat} (e : h i j = none) : fst2 h B i (j + 1) = fst2 h B i j := by
  unfold fst2
  rw [List.range_succ, List.findSome?_append]
  cases (List.range j).findSome? (h i) <;> simp [e]
theorem fst2_row {h : Nat → Nat → Option Int} {B i : Nat} : fst2 h B (i + 1) 0 = fst2 h B i B := by
  unfold fst2
  rw [List.range_succ, List.findSome?_append]
  simp
theorem fst2_all {h : Nat → Nat → Option Int} {B i : Nat} : fst2 h B i 0 = (List.range i).findSome? fun p => ((List.range B).findSome? (h p)).map fun x => (p, x) := by
  unfold fst2
  simp
theorem head_snoc {α : Type} (ps : List α) (x : α) : (ps ++ [x]).head? = ps.head?.or (some x) := by
  cases ps <;> rfl
end R

namespace R
open PySem PySem.Spec PyProof.Rows L2
open PySem.W (Frag)
/-! ## lists and tuples as data -/
theorem canAll_map {α : Type} {f : α → PyData} (h : ∀ a, (f a).canLay0 = true) : ∀ l : List α, PyData.canLayAll0 (l.map f) = true
  | [] => rfl
  | a :: l => by
    show ((f a).canLay0 && PyData.canLayAll0 (l.map f)) = true
    rw [h a, canAll_map h l]; rfl
theorem depthAll_map {α : Type} {f : α → PyData} {n : Nat} (h : ∀ a, (f a).depth ≤ n) : ∀ l : List α, PyData.depthAll (l.map f) ≤ n
  | [] => Nat.zero_le _
  | a :: l => by
    have h1 := h a
    have h2 := depthAll_map h l
    show max (f a).depth (PyData.depthAll (l.map f)) ≤ n
    omega
theorem dpAll_map {α : Type} {K : Frag} {H : Hp} {g : α → V} {f : α → PyData} (h : ∀ a, Dp K H (g a) (f a)) : ∀ l : List α, DpAll K H (l.map g) (l.map f)
  | [] => .nil
  | a :: l => .cons (h a) (dpAll_map h l)
theorem shaped_of {d : PyData} (h1 : d.canLay0 = true) (h2 : d.depth ≤ 64) : SeqAt.shaped d = true := by
  unfold SeqAt.shaped
  rw [h1, decide_eq_true h2]; rfl
/-- a list of ints -/
def pyL (ns : List Int) : PyData := .list (ns.map .int)
def pyT (ns : List Int) : PyData := .tuple (ns.map .int)
theorem can_pyL (ns : List Int) : (pyL ns).canLay0 = true := canAll_map (fun _ => rfl) ns
theorem can_pyT (ns : List Int) : (pyT ns).canLay0 = true := canAll_map (fun _ => rfl) ns
theorem dep_pyL (ns : List Int) : (pyL ns).depth ≤ 1 := by
  have h := depthAll_map (f := PyData.int) (n := 0) (fun _ => Nat.le_refl 0) ns
  show PyData.depthAll (ns.map .int) + 1 ≤ 1
  omega
theorem dep_pyT (ns : List Int) : (pyT ns).depth ≤ 1 := by
  have h := depthAll_map (f := PyData.int) (n := 0) (fun _ => Nat.le_refl 0) ns
  show PyData.depthAll (ns.map .int) + 1 ≤ 1
  omega
section
variable {K : Frag} {H : Hp} {x y : V} {Q : VK} {d : PyData} {a b : Addr} {ns : List Int}
theorem dp_pyL (h : SqL K H a (ns.map V.int)) : Dp K H (.ref a) (pyL ns) := .lst h (dpAll_map (fun i => .int i) ns)
theorem dp_pyT (h : SqT K H a (ns.map V.int)) : Dp K H (.ref a) (pyT ns) := .tup h (dpAll_map (fun i => .int i) ns)
theorem a_eqD (hx : Dp K H x d) (hy : Dp K H y d) (h1 : d.canLay0 = true) (h2 : d.depth ≤ 64) (h : Q (.bl true) H) : rEqD K x y H Q :=
  ⟨d, d, hx, hy, shaped_of h1 h2, shaped_of h1 h2, by rw [SeqAt.eqv_refl d h1]; exact h⟩
theorem a_neD (hx : Dp K H x d) (hy : Dp K H y d) (h1 : d.canLay0 = true) (h2 : d.depth ≤ 64) (h : Q (.bl false) H) : rNeD K x y H Q :=
  ⟨d, d, hx, hy, shaped_of h1 h2, shaped_of h1 h2, by rw [SeqAt.eqv_refl d h1]; exact h⟩
theorem a_eqL (hx : SqL K H a (ns.map V.int)) (hy : SqL K H b (ns.map V.int)) (h : Q (.bl true) H) : rEqD K (.ref a) (.ref b) H Q := a_eqD (dp_pyL hx) (dp_pyL hy) (can_pyL ns) (Nat.le_trans (dep_pyL ns) (by decide)) h
theorem a_neL (hx : SqL K H a (ns.map V.int)) (hy : SqL K H b (ns.map V.int)) (h : Q (.bl false) H) : rNeD K (.ref a) (.ref b) H Q := a_neD (dp_pyL hx) (dp_pyL hy) (can_pyL ns) (Nat.le_trans (dep_pyL ns) (by decide)) h
theorem a_eqT (hx : SqT K H a (ns.map V.int)) (hy : SqT K H b (ns.map V.int)) (h : Q (.bl true) H) : rEqD K (.ref a) (.ref b) H Q := a_eqD (dp_pyT hx) (dp_pyT hy) (can_pyT ns) (Nat.le_trans (dep_pyT ns) (by decide)) h
theorem a_neT (hx : SqT K H a (ns.map V.int)) (hy : SqT K H b (ns.map V.int)) (h : Q (.bl false) H) : rNeD K (.ref a) (.ref b) H Q := a_neD (dp_pyT hx) (dp_pyT hy) (can_pyT ns) (Nat.le_trans (dep_pyT ns) (by decide)) h
end
end R
namespace R
open PySem PySem.Spec PyProof.Rows L2
open PySem.W (Frag)
theorem dpAll_snoc {K : Frag} {H : Hp} {v : V} {d : PyData} (h : Dp K H v d) : ∀ {vs : List V} {ds : List PyData}, DpAll K H vs ds → DpAll K H (vs ++ [v]) (ds ++ [d])
  | _, _, .nil => .cons h .nil
  | _, _, .cons h1 h2 => .cons h1 (dpAll_snoc h h2)
theorem dpAll_len {K : Frag} {H : Hp} : ∀ {vs : List V} {ds : List PyData}, DpAll K H vs ds → vs.length = ds.length
  | _, _, .nil => rfl
  | _, _, .cons _ h2 => by rw [List.length_cons, List.length_cons, dpAll_len h2]
/-- a pair of ints -/
def pyP (p : Nat × Int) : PyData := .tuple [.int p.1, .int p.2]
theorem can_pyP (p : Nat × Int) : (pyP p).canLay0 = true := rfl
theorem dep_pyP (p : Nat × Int) : (pyP p).depth ≤ 1 := Nat.le_refl 1
theorem dp_pyP {K : Frag} {H : Hp} {a : Addr} {p : Nat × Int} (h : SqT K H a [.int p.1, .int p.2]) : Dp K H (.ref a) (pyP p) := .tup h (.cons (.int _) (.cons (.int _) .nil))
/-- != by data that is not the same -/
theorem a_neD' {K : Frag} {H : Hp} {x y : V} {Q : VK} {d e : PyData} (hx : Dp K H x d) (hy : Dp K H y e) (h1 : d.canLay0 = true) (h2 : d.depth ≤ 64) (h3 : e.canLay0 = true) (h4 : e.depth ≤ 64) (n : PyData.eqv d e = false) (h : Q (.bl true) H) : rNeD K x y H Q :=
  ⟨d, e, hx, hy, shaped_of h1 h2, shaped_of h3 h4, by rw [n]; exact h⟩
theorem a_eqD' {K : Frag} {H : Hp} {x y : V} {Q : VK} {d e : PyData} (hx : Dp K H x d) (hy : Dp K H y e) (h1 : d.canLay0 = true) (h2 : d.depth ≤ 64) (h3 : e.canLay0 = true) (h4 : e.depth ≤ 64) (n : PyData.eqv d e = false) (h : Q (.bl false) H) : rEqD K x y H Q :=
  ⟨d, e, hx, hy, shaped_of h1 h2, shaped_of h3 h4, by rw [n]; exact h⟩
end R

local macro_rules | `(tactic| walk_at "s") => `(tactic| first
  | with_reducible refine R.a_seq ?_ | with_reducible refine R.a_asg ?_ | with_reducible refine R.a_gname ?_ | ((with_reducible refine' R.a_var ?h1 ?h2); (case h1 => rfl)) | with_reducible refine R.a_c ?_
  | with_reducible refine R.a_op ?_ | with_reducible refine R.a_un ?_ | with_reducible refine R.a_neg ?_ | with_reducible refine R.a_drop ?_ | with_reducible refine R.a_ret ?_ | with_reducible refine R.a_retN ?_
  | with_reducible refine R.a_test ?_ | with_reducible refine R.a_tB ?_ | with_reducible refine R.a_bk ?_ | with_reducible refine R.a_and ?_ | with_reducible refine R.a_or ?_ | with_reducible refine R.a_not ?_
  | with_reducible refine R.a_andV ?_ | with_reducible refine R.a_orV ?_ | with_reducible refine R.a_notV ?_ | with_reducible refine R.a_bv ?_ | with_reducible refine R.a_ifE ?_
  | with_reducible refine R.a_nil ?_ | with_reducible refine R.a_cons ?_ | with_reducible refine R.a_tup ?_ | with_reducible refine R.a_lst ?_ | with_reducible refine R.a_cb ?_ | with_reducible refine R.a_call ?_ | with_reducible refine R.a_chain ?_
  | with_reducible refine R.a_sl ?_ | with_reducible refine R.a_npart ?_ | with_reducible refine R.a_part ?_ | with_reducible refine R.a_ik ?_ | with_reducible refine R.a_gsub ?_ | with_reducible refine R.a_bm ?_ | with_reducible refine R.a_bm0 ?_ | with_reducible refine R.a_par ?_ | with_reducible refine R.a_par2 ?_
  | with_reducible refine R.a_for ?_ | with_reducible refine R.a_lc ?_ | with_reducible refine R.a_rng1 ?_ | with_reducible refine R.a_rng2 ?_ | with_reducible refine R.a_next ?_ | with_reducible refine R.a_yes ?_ | with_reducible refine R.a_gcons ?_ | with_reducible refine R.a_gnil ?_
  | ((with_reducible refine R.a_rng1' ?h1 ?h2 ?h3); (case h1 => omega); (case h2 => omega)) | ((with_reducible refine R.a_rng2' ?h1 ?h2); (case h1 => omega))
  | with_reducible refine R.a_I0 ?_ | with_reducible refine R.a_eqI ?_ | with_reducible refine R.a_neI ?_ | with_reducible refine R.a_isN1 ?_ | with_reducible refine R.a_notN1 ?_
  | ((with_reducible refine R.a_isN0 ?h1 ?h2); (case h1 => (intro z; cases z))) | ((with_reducible refine R.a_notN0 ?h1 ?h2); (case h1 => (intro z; cases z)))
  | with_reducible refine R.a_isiI ?_ | with_reducible refine R.a_isiB ?_
  | ((with_reducible refine R.a_I ?h1 ?h2); (case h1 => first | omega | exact R.mx_l (by omega) (by omega) | exact R.mx_r (by omega) (by omega) | exact R.divW (by omega) (by omega)))
  | with_reducible refine R.a_tt ?_ | with_reducible refine R.a_ff ?_ | with_reducible refine R.a_nt ?_ | with_reducible refine R.a_nf ?_)
-- a test whose answer is known
local macro_rules | `(tactic| walk_at "k") => `(tactic| first
  | ((with_reducible refine R.a_itT ?h1 ?h2); (case h1 => first | assumption | omega)) | ((with_reducible refine R.a_itF ?h1 ?h2); (case h1 => first | assumption | omega))
  | ((with_reducible refine R.a_niT ?h1 ?h2); (case h1 => first | assumption | omega)) | ((with_reducible refine R.a_niF ?h1 ?h2); (case h1 => first | assumption | omega)))
local macro_rules | `(tactic| walk_at "k") => `(tactic| first
  | ((with_reducible refine R.a_cT ?h1 ?h2 ?h3); (case h1 => first | assumption | omega); (case h2 => first | assumption | omega))
  | ((with_reducible refine R.a_ncT ?h1 ?h2 ?h3); (case h1 => first | assumption | omega); (case h2 => first | assumption | omega)))
local macro_rules | `(tactic| walk_at "c") => `(tactic| fail)
local macro_rules | `(tactic| walk_at "sq") => `(tactic| first | assumption | (refine' R.Own.sq ?o 0 ?e; (case o => assumption); (case e => rfl)) | (refine' R.Own.sq ?o 1 ?e; (case o => assumption); (case e => rfl)) | (refine' R.Own.sq ?o 2 ?e; (case o => assumption); (case e => rfl)) | (refine' R.Own.sq ?o 3 ?e; (case o => assumption); (case e => rfl)) | (refine' R.Own.sq ?o 4 ?e; (case o => assumption); (case e => rfl)) | (refine' R.Own.sq ?o 5 ?e; (case o => assumption); (case e => rfl)) | (refine' R.Own.sq ?o 6 ?e; (case o => assumption); (case e => rfl)) | (refine' R.Own.sq ?o 7 ?e; (case o => assumption); (case e => rfl)) | (refine' R.Own.sq ?o 8 ?e; (case o => assumption); (case e => rfl)) | (refine' R.Own.sq ?o 9 ?e; (case o => assumption); (case e => rfl)) | (refine' R.Own.seq ?o ?e; (case o => assumption); (case e => assumption)))
local macro_rules | `(tactic| walk_at "tq") => `(tactic| first | assumption | (refine' R.Own.tq ?o 0 ?e; (case o => assumption); (case e => rfl)) | (refine' R.Own.tq ?o 1 ?e; (case o => assumption); (case e => rfl)) | (refine' R.Own.tq ?o 2 ?e; (case o => assumption); (case e => rfl)) | (refine' R.Own.tq ?o 3 ?e; (case o => assumption); (case e => rfl)) | (refine' R.Own.tq ?o 4 ?e; (case o => assumption); (case e => rfl)) | (refine' R.Own.tq ?o 5 ?e; (case o => assumption); (case e => rfl)) | (refine' R.Own.tq ?o 6 ?e; (case o => assumption); (case e => rfl)) | (refine' R.Own.tq ?o 7 ?e; (case o => assumption); (case e => rfl)) | (refine' R.Own.tq ?o 8 ?e; (case o => assumption); (case e => rfl)) | (refine' R.Own.tq ?o 9 ?e; (case o => assumption); (case e => rfl)) | (refine' R.Own.tup ?o ?e; (case o => assumption); (case e => assumption)))
local macro_rules | `(tactic| walk_at "c") => `(tactic| first
  | ((with_reducible refine' R.a_ixL ?s ?a ?q); (case s => walk_at "sq"); (case a => rfl))
  | ((with_reducible refine' R.a_ixT ?s ?a ?q); (case s => walk_at "tq"); (case a => rfl))
  | ((with_reducible refine' R.a_gtup ?k1 ?k2 ?k3); (case k1 => walk_at "tq"); (case k2 => rfl))
  | with_reducible refine R.a_int1 ?_ | with_reducible refine R.a_abs ?_
  | ((with_reducible refine' R.a_len ?k1 ?k2); (case k1 => first | (refine Or.inl ?_; walk_at "sq") | (refine Or.inr ?_; walk_at "tq")))
  | ((with_reducible refine' R.a_pow (k := 18) ?n ?k ?m ?q); (case n => rfl); (case k => decide); (case m => decide)) | ((with_reducible refine' R.a_pow (k := 40) ?n ?k ?m ?q); (case n => rfl); (case k => decide); (case m => decide)) | ((with_reducible refine' R.a_pow (k := 6) ?n ?k ?m ?q); (case n => rfl); (case k => decide); (case m => decide)) | ((with_reducible refine' R.a_pow (k := 20) ?n ?k ?m ?q); (case n => rfl); (case k => decide); (case m => decide)) | ((with_reducible refine' R.a_pow (k := 30) ?n ?k ?m ?q); (case n => rfl); (case k => decide); (case m => decide)) | ((with_reducible refine' R.a_pow (k := 39) ?n ?k ?m ?q); (case n => rfl); (case k => decide); (case m => decide))
  | ((with_reducible refine' R.a_setL ?k1 0 ?k2 ?k3 ?k4); (case k1 => assumption); (case k2 => rfl); (case k3 => rfl); intro H' O') | ((with_reducible refine' R.a_setL ?k1 1 ?k2 ?k3 ?k4); (case k1 => assumption); (case k2 => rfl); (case k3 => rfl); intro H' O') | ((with_reducible refine' R.a_setL ?k1 2 ?k2 ?k3 ?k4); (case k1 => assumption); (case k2 => rfl); (case k3 => rfl); intro H' O') | ((with_reducible refine' R.a_setL ?k1 3 ?k2 ?k3 ?k4); (case k1 => assumption); (case k2 => rfl); (case k3 => rfl); intro H' O') | ((with_reducible refine' R.a_setL ?k1 4 ?k2 ?k3 ?k4); (case k1 => assumption); (case k2 => rfl); (case k3 => rfl); intro H' O') | ((with_reducible refine' R.a_setL ?k1 5 ?k2 ?k3 ?k4); (case k1 => assumption); (case k2 => rfl); (case k3 => rfl); intro H' O') | ((with_reducible refine' R.a_setL ?k1 6 ?k2 ?k3 ?k4); (case k1 => assumption); (case k2 => rfl); (case k3 => rfl); intro H' O') | ((with_reducible refine' R.a_setL ?k1 7 ?k2 ?k3 ?k4); (case k1 => assumption); (case k2 => rfl); (case k3 => rfl); intro H' O') | ((with_reducible refine' R.a_setL ?k1 8 ?k2 ?k3 ?k4); (case k1 => assumption); (case k2 => rfl); (case k3 => rfl); intro H' O') | ((with_reducible refine' R.a_setL ?k1 9 ?k2 ?k3 ?k4); (case k1 => assumption); (case k2 => rfl); (case k3 => rfl); intro H' O'))
local macro_rules | `(tactic| walk_at "app") => `(tactic| first | ((with_reducible refine' R.a_app ?k1 0 ?k2 ?k3 ?k4); (case k1 => assumption); (case k2 => rfl)) | ((with_reducible refine' R.a_app ?k1 1 ?k2 ?k3 ?k4); (case k1 => assumption); (case k2 => rfl)) | ((with_reducible refine' R.a_app ?k1 2 ?k2 ?k3 ?k4); (case k1 => assumption); (case k2 => rfl)) | ((with_reducible refine' R.a_app ?k1 3 ?k2 ?k3 ?k4); (case k1 => assumption); (case k2 => rfl)) | ((with_reducible refine' R.a_app ?k1 4 ?k2 ?k3 ?k4); (case k1 => assumption); (case k2 => rfl)) | ((with_reducible refine' R.a_app ?k1 5 ?k2 ?k3 ?k4); (case k1 => assumption); (case k2 => rfl)))
local macro_rules | `(tactic| walk_at "mkL") => `(tactic| ((with_reducible refine' R.a_mkL ?k1 ?k2 ?k3); (case k1 => assumption); (case k2 => first | exact Nat.zero_le _ | (simp only [List.length_cons, List.length_nil, List.length_map]; omega))))
local macro_rules | `(tactic| walk_at "mkT") => `(tactic| ((with_reducible refine' R.a_mkT ?k1 ?k2 ?k3); (case k1 => assumption); (case k2 => first | exact Nat.zero_le _ | (simp only [List.length_cons, List.length_nil, List.length_map]; omega))))
local macro_rules | `(tactic| walk_at "h") => `(tactic| repeat (first | walk_at "s" | walk_at "k" | walk_at "c"))
local macro_rules | `(tactic| walk_at "g") => `(tactic| repeat (first | walk_at "s" | walk_at "k" | walk_at "c" | with_reducible refine R.a_if ?_))

namespace Toy
open PySem PySem.Spec PyProof.Rows L2 R
open PySem.W (Frag)
def topS (i : Nat) : Stmt := PySem.Challenge.pw_resttricks_k28_whole_wrong_numbers.main.body.getD i (.Pass ⟨0, 0, 0, 0⟩)
abbrev s_is_from : Stmt := (topS 9)
abbrev N_is_from : List Str := ["value", "low", "high"]
abbrev p_is_from : List Str := ["value", "low", "high"]
theorem sc_is_from : FnScope N_is_from p_is_from (defScope s_is_from) := ⟨rfl, rfl, rfl, by decide +kernel, rfl, by decide +kernel, by decide +kernel⟩
abbrev s_need_base : Stmt := (topS 10)
abbrev N_need_base : List Str := ["base"]
abbrev p_need_base : List Str := ["base"]
theorem sc_need_base : FnScope N_need_base p_need_base (defScope s_need_base) := ⟨rfl, rfl, rfl, by decide +kernel, rfl, by decide +kernel, by decide +kernel⟩
abbrev s_need_divisor : Stmt := (topS 11)
abbrev N_need_divisor : List Str := ["d", "most"]
abbrev p_need_divisor : List Str := ["d", "most"]
theorem sc_need_divisor : FnScope N_need_divisor p_need_divisor (defScope s_need_divisor) := ⟨rfl, rfl, rfl, by decide +kernel, rfl, by decide +kernel, by decide +kernel⟩
abbrev s_power : Stmt := (topS 12)
abbrev N_power : List Str := ["base", "many", "found", "turn"]
abbrev p_power : List Str := ["base", "many"]
theorem sc_power : FnScope N_power p_power (defScope s_power) := ⟨rfl, rfl, rfl, by decide +kernel, rfl, by decide +kernel, by decide +kernel⟩
abbrev s_need_length : Stmt := (topS 15)
abbrev N_need_length : List Str := ["length"]
abbrev p_need_length : List Str := ["length"]
theorem sc_need_length : FnScope N_need_length p_need_length (defScope s_need_length) := ⟨rfl, rfl, rfl, by decide +kernel, rfl, by decide +kernel, by decide +kernel⟩
abbrev s_slip_by : Stmt := (topS 16)
abbrev N_slip_by : List Str := ["base", "d", "length", "factor", "place", "less"]
abbrev p_slip_by : List Str := ["base", "d", "length", "factor"]
theorem sc_slip_by : FnScope N_slip_by p_slip_by (defScope s_slip_by) := ⟨rfl, rfl, rfl, by decide +kernel, rfl, by decide +kernel, by decide +kernel⟩
abbrev s_slip : Stmt := (topS 17)
abbrev N_slip : List Str := ["base", "d", "length"]
abbrev p_slip : List Str := ["base", "d", "length"]
theorem sc_slip : FnScope N_slip p_slip (defScope s_slip) := ⟨rfl, rfl, rfl, by decide +kernel, rfl, by decide +kernel, by decide +kernel⟩
abbrev s_swap : Stmt := (topS 18)
abbrev N_swap : List Str := ["base", "d", "length", "far"]
abbrev p_swap : List Str := ["base", "d", "length", "far"]
theorem sc_swap : FnScope N_swap p_swap (defScope s_swap) := ⟨rfl, rfl, rfl, by decide +kernel, rfl, by decide +kernel, by decide +kernel⟩
abbrev s_law_taken : Stmt := (topS 20)
abbrev N_law_taken : List Str := ["_law_row", "_law_many", "_law_found", "_law_cell"]
abbrev p_law_taken : List Str := ["_law_row", "_law_many"]
theorem sc_law_taken : FnScope N_law_taken p_law_taken (defScope s_law_taken) := ⟨rfl, rfl, rfl, by decide +kernel, rfl, by decide +kernel, by decide +kernel⟩
abbrev s_law_power : Stmt := (topS 21)
abbrev N_law_power : List Str := ["_law_base", "_law_many", "_law_found", "_law_turn"]
abbrev p_law_power : List Str := ["_law_base", "_law_many"]
theorem sc_law_power : FnScope N_law_power p_law_power (defScope s_law_power) := ⟨rfl, rfl, rfl, by decide +kernel, rfl, by decide +kernel, by decide +kernel⟩
abbrev s_law : Stmt := (topS 22)
abbrev N_law : List Str := ["_law_script", "_law_line", "_law_turn", "_law_base", "_law_d", "_law_length", "_law_figures_told", "_law_n", "_law_found", "_law_again", "_law_at", "_law_figure", "_law_other", "_law_far", "_law_one", "_law_two", "_law_k"]
abbrev p_law : List Str := ["_law_script"]
theorem sc_law : FnScope N_law p_law (defScope s_law) := ⟨rfl, rfl, rfl, by decide +kernel, rfl, by decide +kernel, by decide +kernel⟩
structure Adr where
  f_is_from : Addr
  d_is_from : FuncData
  f_need_base : Addr
  d_need_base : FuncData
  f_need_divisor : Addr
  d_need_divisor : FuncData
  f_power : Addr
  d_power : FuncData
  f_need_length : Addr
  d_need_length : FuncData
  f_slip_by : Addr
  d_slip_by : FuncData
  f_slip : Addr
  d_slip : FuncData
  f_swap : Addr
  d_swap : FuncData
  f_law_taken : Addr
  d_law_taken : FuncData
  f_law_power : Addr
  d_law_power : FuncData
  f_law : Addr
  d_law : FuncData
structure Txt (K : Frag) (mg : Str → Option Value) (Z : Adr) : Prop where
  F_is_from : Fun K "is_from" "is_from" s_is_from Z.f_is_from Z.d_is_from
  b_is_from : Binds K Z.d_is_from p_is_from []
  g_is_from : mg "is_from" = some (.ref Z.f_is_from)
  F_need_base : Fun K "need_base" "need_base" s_need_base Z.f_need_base Z.d_need_base
  b_need_base : Binds K Z.d_need_base p_need_base []
  g_need_base : mg "need_base" = some (.ref Z.f_need_base)
  F_need_divisor : Fun K "need_divisor" "need_divisor" s_need_divisor Z.f_need_divisor Z.d_need_divisor
  b_need_divisor : Binds K Z.d_need_divisor p_need_divisor []
  g_need_divisor : mg "need_divisor" = some (.ref Z.f_need_divisor)
  F_power : Fun K "power" "power" s_power Z.f_power Z.d_power
  b_power : Binds K Z.d_power p_power []
  g_power : mg "power" = some (.ref Z.f_power)
  F_need_length : Fun K "need_length" "need_length" s_need_length Z.f_need_length Z.d_need_length
  b_need_length : Binds K Z.d_need_length p_need_length []
  g_need_length : mg "need_length" = some (.ref Z.f_need_length)
  F_slip_by : Fun K "slip_by" "slip_by" s_slip_by Z.f_slip_by Z.d_slip_by
  b_slip_by : Binds K Z.d_slip_by p_slip_by []
  g_slip_by : mg "slip_by" = some (.ref Z.f_slip_by)
  F_slip : Fun K "slip" "slip" s_slip Z.f_slip Z.d_slip
  b_slip : Binds K Z.d_slip p_slip []
  g_slip : mg "slip" = some (.ref Z.f_slip)
  F_swap : Fun K "swap" "swap" s_swap Z.f_swap Z.d_swap
  b_swap : Binds K Z.d_swap p_swap []
  g_swap : mg "swap" = some (.ref Z.f_swap)
  F_law_taken : Fun K "_law_taken" "_law_taken" s_law_taken Z.f_law_taken Z.d_law_taken
  b_law_taken : Binds K Z.d_law_taken p_law_taken []
  g_law_taken : mg "_law_taken" = some (.ref Z.f_law_taken)
  F_law_power : Fun K "_law_power" "_law_power" s_law_power Z.f_law_power Z.d_law_power
  b_law_power : Binds K Z.d_law_power p_law_power []
  g_law_power : mg "_law_power" = some (.ref Z.f_law_power)
  F_law : Fun K "law" "law" s_law Z.f_law Z.d_law
  b_law : Binds K Z.d_law p_law []
  g_law : mg "law" = some (.ref Z.f_law)
  v_LEAST_BASE : ∃ t, mg "LEAST_BASE" = some (.int (2) t)
  v_MOST_BASE : ∃ t, mg "MOST_BASE" = some (.int (16) t)
  v_MOST_DIVISOR : ∃ t, mg "MOST_DIVISOR" = some (.int (100) t)
  v_MOST_LENGTH : ∃ t, mg "MOST_LENGTH" = some (.int (40) t)
  n_isinstance : mg "isinstance" = none
  n_int : mg "int" = none
  n_bool : mg "bool" = none
  n_range : mg "range" = none
  n_len : mg "len" = none
  n_sum : mg "sum" = none
  n_abs : mg "abs" = none
section
variable {P : Program} {w : World} {K : Frag} {mg : Str → Option Value} {base : Heap} {Z : Adr}

/-! ### is_from -/
def sp_is_from (K : Frag) : Sp := fun vs H Q _ => ∃ i lo hi : Int, vs = [.int i, .int lo, .int hi] ∧ Q (.bl (decide (lo ≤ i) && decide (i ≤ hi))) H
theorem use_is_from {K : Frag} {i lo hi : Int} {H : Hp} {Q : VK} {E : XK} (h : Q (.bl (decide (lo ≤ i) && decide (i ≤ hi))) H) : sp_is_from K ([.int i, .int lo, .int hi] ++ []) H Q E := ⟨_, _, _, rfl, h⟩
theorem ok_is_from (T : Txt K mg Z) : FnOk P w K mg base CX0 1 Z.f_is_from Z.d_is_from p_is_from (sp_is_from K) := by
  refine T.F_is_from.ok sc_is_from (fun vs H Q E h => ?_) (fun cdv A outer s H vs Q E hr h => ?_)
  · obtain ⟨_, _, _, rfl, _⟩ := h; rfl
  · obtain ⟨i, lo, hi, rfl, h⟩ := h
    refine ⟨_, (pss_one (ps_ret (pe_and (pe_callB (r := rIsi K) call_isi (by rfl) T.n_isinstance boot_isinstance (pa_cons (pv 0) (pa_cons (pe_bltn (v := .ty "int") (by rfl) T.n_int boot_int rfl) pa_nil))) (pe_and (pe_not (pe_callB (r := rIsi K) call_isi (by rfl) T.n_isinstance boot_isinstance (pa_cons (pv 0) (pa_cons (pe_bltn (v := .ty "bool") (by rfl) T.n_bool boot_bool rfl) pa_nil)))) (pe_one (pe_chain op_le op_le (pv 1) (pv 0) (pv 2))))))), ?_⟩
    walk_at "g"
    refine a_it2 (fun c => ?_) (fun c => ?_)
    · walk_at "g"
      rw [decide_eq_true c, Bool.true_and] at h; exact h
    · rw [decide_eq_false c] at h; exact h
-- @USE
local macro_rules | `(tactic| walk_at "c") => `(tactic| with_reducible refine use_is_from ?_)

/-! ### need_base -/
def sp_need_base : Sp := fun vs H Q _ => ∃ b : Int, vs = [.int b] ∧ 2 ≤ b ∧ b ≤ 16 ∧ Q .non H
theorem use_need_base {b : Int} {H : Hp} {Q : VK} {E : XK} (h1 : 2 ≤ b) (h2 : b ≤ 16) (h : Q .non H) : sp_need_base ([.int b] ++ []) H Q E := ⟨_, rfl, h1, h2, h⟩
theorem ok_need_base (T : Txt K mg Z) : FnOk P w K mg base CX0 2 Z.f_need_base Z.d_need_base p_need_base sp_need_base := by
  refine T.F_need_base.ok sc_need_base (fun vs H Q E h => ?_) (fun cdv A outer s H vs Q E hr h => ?_)
  · obtain ⟨_, rfl, _⟩ := h; rfl
  · obtain ⟨b, rfl, h1, h2, h⟩ := h
    refine ⟨_, (pss_one (ps_if (pt_not (pt_val (pe_call (ok_is_from T) (hr.mono (by decide)) rfl T.g_is_from T.F_is_from.kp T.b_is_from .nil pass0 (pa_cons (pv 0) (pa_cons (pe_globI rfl T.v_LEAST_BASE) (pa_cons (pe_globI rfl T.v_MOST_BASE) pa_nil)))))) (pss_one ps_never) pss_nil)), ?_⟩
    walk_at "g"
    exact h
-- @USE
local macro_rules | `(tactic| walk_at "c") => `(tactic| ((with_reducible refine use_need_base ?h1 ?h2 ?h3); (case h1 => omega); (case h2 => omega)))

/-! ### need_divisor -/
def sp_need_divisor : Sp := fun vs H Q _ => ∃ d m : Int, vs = [.int d, .int m] ∧ 1 ≤ d ∧ d ≤ m ∧ Q .non H
theorem use_need_divisor {d m : Int} {H : Hp} {Q : VK} {E : XK} (h1 : 1 ≤ d) (h2 : d ≤ m) (h : Q .non H) : sp_need_divisor ([.int d, .int m] ++ []) H Q E := ⟨_, _, rfl, h1, h2, h⟩
theorem ok_need_divisor (T : Txt K mg Z) : FnOk P w K mg base CX0 2 Z.f_need_divisor Z.d_need_divisor p_need_divisor sp_need_divisor := by
  refine T.F_need_divisor.ok sc_need_divisor (fun vs H Q E h => ?_) (fun cdv A outer s H vs Q E hr h => ?_)
  · obtain ⟨_, _, rfl, _⟩ := h; rfl
  · obtain ⟨d, m, rfl, h1, h2, h⟩ := h
    refine ⟨_, (pss_one (ps_if (pt_not (pt_val (pe_call (ok_is_from T) (hr.mono (by decide)) rfl T.g_is_from T.F_is_from.kp T.b_is_from .nil pass0 (pa_cons (pv 0) (pa_cons pe_int (pa_cons (pv 1) pa_nil)))))) (pss_one ps_never) pss_nil)), ?_⟩
    walk_at "g"
    exact h
-- @USE
local macro_rules | `(tactic| walk_at "c") => `(tactic| ((with_reducible refine use_need_divisor ?h1 ?h2 ?h3); (case h1 => omega); (case h2 => omega)))

/-! ### power -/
def sp_power : Sp := fun vs H Q _ => ∃ b m : Int, vs = [.int b, .int m] ∧ -(2 ^ 62) ≤ m ∧ m < 2 ^ 62 ∧ -(2 ^ 64) < b ∧ b < 2 ^ 64 ∧ Q (.int (b ^ m.toNat)) H
theorem use_power {b m : Int} {H : Hp} {Q : VK} {E : XK} (h1 : -(2 ^ 62) ≤ m ∧ m < 2 ^ 62 ∧ -(2 ^ 64) < b ∧ b < 2 ^ 64) (h : Q (.int (b ^ m.toNat)) H) : sp_power ([.int b, .int m] ++ []) H Q E := ⟨_, _, rfl, h1.1, h1.2.1, h1.2.2.1, h1.2.2.2, h⟩
theorem ok_power (T : Txt K mg Z) : FnOk P w K mg base CX0 1 Z.f_power Z.d_power p_power sp_power := by
  refine T.F_power.ok sc_power (fun vs H Q E h => ?_) (fun cdv A outer s H vs Q E hr h => ?_)
  · obtain ⟨_, _, rfl, _⟩ := h; rfl
  · obtain ⟨b, m, rfl, h1, h2, h3, h4, h⟩ := h
    refine ⟨_, (pss_cons (ps_set (i := 2) sc_power.nd rfl (Or.inl rfl) pe_int)
    (pss_cons (ps_for PassesOwn.never rfl (pi_range1 rfl T.n_range (pa_cons (pv 1) pa_nil)) (pg_name (i := 3) sc_power.nd rfl (Or.inl rfl))
    (pss_one (ps_set (i := 2) sc_power.nd rfl (Or.inl rfl) (pe_op op_mulX (pv 2) (pv 0)))))
    (pss_one (ps_ret (pv 2))))), ?_⟩
    walk_at "g"
    refine for_range (fun i σ H' => H' = H ∧ ∃ v, σ = [some (.int b), some (.int m), some (.int (b ^ i)), v]) ⟨rfl, none, by rw [Int.pow_zero]; rfl⟩ ?_ ?_
    · rintro i σ H' hi ⟨rfl, v, rfl⟩
      walk_at "g"
      exact ⟨rfl, _, by rw [Int.pow_succ]; rfl⟩
    · rintro σ H' ⟨rfl, v, rfl⟩
      walk_at "g"
      exact h
-- @USE
local macro_rules | `(tactic| walk_at "c") => `(tactic| ((with_reducible refine use_power ?h1 ?h2); (case h1 => omega)))

/-! ### need_length -/
def sp_need_length : Sp := fun vs H Q _ => ∃ d : Int, vs = [.int d] ∧ 1 ≤ d ∧ d ≤ 40 ∧ Q .non H
theorem use_need_length {d : Int} {H : Hp} {Q : VK} {E : XK} (h1 : 1 ≤ d) (h2 : d ≤ 40) (h : Q .non H) : sp_need_length ([.int d] ++ []) H Q E := ⟨_, rfl, h1, h2, h⟩
theorem ok_need_length (T : Txt K mg Z) : FnOk P w K mg base CX0 2 Z.f_need_length Z.d_need_length p_need_length sp_need_length := by
  refine T.F_need_length.ok sc_need_length (fun vs H Q E h => ?_) (fun cdv A outer s H vs Q E hr h => ?_)
  · obtain ⟨_, rfl, _⟩ := h; rfl
  · obtain ⟨d, rfl, h1, h2, h⟩ := h
    refine ⟨_, (pss_one (ps_if (pt_not (pt_val (pe_call (ok_is_from T) (hr.mono (by decide)) rfl T.g_is_from T.F_is_from.kp T.b_is_from .nil pass0 (pa_cons (pv 0) (pa_cons pe_int (pa_cons (pe_globI rfl T.v_MOST_LENGTH) pa_nil)))))) (pss_one ps_never) pss_nil)), ?_⟩
    walk_at "g"
    exact h
-- @USE
local macro_rules | `(tactic| walk_at "c") => `(tactic| ((with_reducible refine use_need_length ?h1 ?h2 ?h3); (case h1 => omega); (case h2 => omega)))

/-! ### slip_by -/
/-- the least difference at a place -/
def slipIn (b d f : Int) (place : Nat) : Option Int := (List.range (b - 1).toNat).findSome? fun (j : Nat) => if (1 + (j : Int)) * f * b ^ place % d = 0 then some (1 + (j : Int)) else none
def slipBy (b d : Int) (len : Nat) (f : Int) : Option (Nat × Int) := (List.range len).findSome? fun p => (slipIn b d f p).map fun x => (p, x)
/-- None, or a new pair -/
def OptPair (o : Option (Nat × Int)) (H : Hp) (Q : VK) : Prop := (o = none → Q .non H) ∧ ∀ (pl : Nat) (ls : Int), o = some (pl, ls) → ∀ p, H p = none → Q (.ref p) (upd H p (.tup [.int pl, .int ls]))
theorem use_pair {B H : Hp} {Lw : List (Addr × HO)} {o : Option (Nat × Int)} {Q : VK} (O : Own B Lw H) (h0 : o = none → Q .non H)
    (h1 : ∀ (pl : Nat) (ls : Int), o = some (pl, ls) → ∀ p H', Own B ((p, .tup [.int pl, .int ls]) :: Lw) H' → Q (.ref p) H') : OptPair o H Q := ⟨h0, fun pl ls e p hp => h1 pl ls e p _ (O.new hp)⟩
/-- the value of an optional pair that stands in the base -/
def PairV (o : Option (Nat × Int)) (v : V) (B : Hp) : Prop := (o = none ∧ v = .non) ∨ ∃ (pl : Nat) (ls : Int) (q : Addr), o = some (pl, ls) ∧ v = .ref q ∧ B q = some (.tup [.int pl, .int ls])
theorem use_pairJ {B H : Hp} {Lw : List (Addr × HO)} {o : Option (Nat × Int)} {Q : VK} (O : Own B Lw H) (k : ∀ (v : V) (B' H' : Hp), Same B B' → Own B' Lw H' → PairV o v B' → Q v H') : OptPair o H Q := by
  refine use_pair O (fun e => k _ B H (Same.refl B) O (.inl ⟨e, rfl⟩)) (fun pl ls e p H' O => ?_)
  exact k _ _ H' (Own.fixS O) (Own.fix O) (.inr ⟨pl, ls, p, e, rfl, upd_same⟩)
def sp_slip_by : Sp := fun vs H Q _ => ∃ b d len f : Int, vs = [.int b, .int d, .int len, .int f] ∧ (2 ≤ b ∧ b ≤ 16) ∧ 0 < d ∧ (-100 ≤ len ∧ len ≤ 100) ∧ f.natAbs < 2 ^ 400 ∧ OptPair (slipBy b d len.toNat f) H Q
theorem ok_slip_by (T : Txt K mg Z) : FnOk P w K mg base CX0 2 Z.f_slip_by Z.d_slip_by p_slip_by sp_slip_by := by
  refine T.F_slip_by.ok sc_slip_by (fun vs H Q E h => ?_) (fun cdv A outer s H vs Q E hr h => ?_)
  · obtain ⟨_, _, _, _, rfl, _⟩ := h; rfl
  · obtain ⟨b, d, len, f, rfl, ⟨hb1, hb2⟩, hd, ⟨hl1, hl2⟩, hf, ⟨hn, hs⟩⟩ := h
    refine ⟨_, (pss_cons (ps_for PassesOwn.never rfl (pi_range1 rfl T.n_range (pa_cons (pv 2) pa_nil)) (pg_name (i := 4) sc_slip_by.nd rfl (Or.inl rfl))
    (pss_one (ps_for PassesOwn.never rfl (pi_range2 rfl T.n_range (pa_cons pe_int (pa_cons (pv 0) pa_nil))) (pg_name (i := 5) sc_slip_by.nd rfl (Or.inl rfl))
    (pss_one (ps_if (pt_cmpR op_eq (pe_op op_mod (pe_op op_mulX (pe_op op_mulX (pv 5) (pv 3)) (pe_call (ok_power T) (hr.mono (by decide)) rfl T.g_power T.F_power.kp T.b_power .nil pass0 (pa_cons (pv 0) (pa_cons (pv 4) pa_nil)))) (pv 1)) pe_int (nomark _)) (pss_one (ps_ret (pe_tup (pa_cons (pv 4) (pa_cons (pv 5) pa_nil))))) pss_nil)))))
    (pss_one (ps_ret pe_non))), ?_⟩
    walk_at "g"
    refine for_range (fun i σ H' => H' = H ∧ (∃ v w, σ = [some (.int b), some (.int d), some (.int len), some (.int f), v, w]) ∧ (List.range i).findSome? (fun p => (slipIn b d f p).map fun x => (p, x)) = none) ⟨rfl, ⟨none, none, rfl⟩, rfl⟩ ?_ ?_
    · rintro i σ H' hi ⟨rfl, ⟨v, w, rfl⟩, hno⟩
      walk_at "g"
      refine for_range (fun j σ H'' => H'' = H' ∧ (∃ w, σ = [some (.int b), some (.int d), some (.int len), some (.int f), some (.int i), w]) ∧ (List.range j).findSome? (fun (j : Nat) => if (1 + (j : Int)) * f * b ^ i % d = 0 then some (1 + (j : Int)) else none) = none) ⟨rfl, ⟨w, by rw [Int.zero_add]; rfl⟩, rfl⟩ ?_ ?_
      · rintro j σ H'' hj ⟨rfl, ⟨w, rfl⟩, hno2⟩
        walk_at "g"
        have e : ((i : Int)).toNat = i := by omega
        rw [e]
        refine a_I (mx_w 500 500 ?_ ?_) ?_
        · rw [Int.natAbs_mul]
          have e1 : (1 + (j : Int)).natAbs < 2 ^ 5 := by omega
          have e2 : (2 : Nat) ^ 500 = 2 ^ 95 * (2 ^ 5 * 2 ^ 400) := by decide
          rw [e2]
          have e3 := Nat.mul_lt_mul'' e1 hf
          have e4 : (1 : Nat) ≤ 2 ^ 95 := by decide
          exact Nat.lt_of_lt_of_le e3 (Nat.le_mul_of_pos_left _ e4)
        · exact Nat.lt_of_lt_of_le (pow_bits (m := 100) (by omega) hb2 (by omega)) (Nat.pow_le_pow_right (by decide) (by decide))
        · walk_at "g"
          refine a_it2 (fun c => ?_) (fun c => ?_)
          · walk_at "g"
            refine ⟨(by show 2 ≤ sizeLine; decide), fun p hp => hs i (1 + (j : Int)) ?_ p hp⟩
            refine find_hit hno ?_ _ (by omega)
            have q : slipIn b d f i = some (1 + (j : Int)) := find_hit hno2 (if_pos c) _ (by omega)
            rw [q]; rfl
          · walk_at "g"
            exact ⟨rfl, ⟨_, rfl⟩, find_more hno2 (if_neg c)⟩
      · rintro σ H'' ⟨rfl, ⟨w, rfl⟩, hno2⟩
        refine ⟨rfl, ⟨_, _, rfl⟩, find_more hno ?_⟩
        have q : slipIn b d f i = none := hno2
        rw [q]; rfl
    · rintro σ H' ⟨rfl, ⟨v, w, rfl⟩, hno⟩
      walk_at "g"
      exact hn hno

/-! ### slip -/
def sp_slip : Sp := fun vs H Q _ => ∃ b d len : Int, vs = [.int b, .int d, .int len] ∧ (2 ≤ b ∧ b ≤ 16) ∧ (1 ≤ d ∧ d ≤ 100) ∧ (1 ≤ len ∧ len ≤ 40) ∧ OptPair (slipBy b d len.toNat 1) H Q
theorem ok_slip (T : Txt K mg Z) : FnOk P w K mg base CX0 3 Z.f_slip Z.d_slip p_slip sp_slip := by
  refine T.F_slip.ok sc_slip (fun vs H Q E h => ?_) (fun cdv A outer s H vs Q E hr h => ?_)
  · obtain ⟨_, _, _, rfl, _⟩ := h; rfl
  · obtain ⟨b, d, len, rfl, ⟨hb1, hb2⟩, ⟨hd1, hd2⟩, ⟨hl1, hl2⟩, h⟩ := h
    refine ⟨_, (pss_cons (ps_expr (pe_call (ok_need_base T) (hr.mono (by decide)) rfl T.g_need_base T.F_need_base.kp T.b_need_base .nil pass0 (pa_cons (pv 0) pa_nil)))
    (pss_cons (ps_expr (pe_call (ok_need_divisor T) (hr.mono (by decide)) rfl T.g_need_divisor T.F_need_divisor.kp T.b_need_divisor .nil pass0 (pa_cons (pv 1) (pa_cons (pe_globI rfl T.v_MOST_DIVISOR) pa_nil))))
    (pss_cons (ps_expr (pe_call (ok_need_length T) (hr.mono (by decide)) rfl T.g_need_length T.F_need_length.kp T.b_need_length .nil pass0 (pa_cons (pv 2) pa_nil)))
    (pss_one (ps_ret (pe_call (ok_slip_by T) (hr.mono (by decide)) rfl T.g_slip_by T.F_slip_by.kp T.b_slip_by .nil pass0 (pa_cons (pv 0) (pa_cons (pv 1) (pa_cons (pv 2) (pa_cons pe_int pa_nil)))))))))), ?_⟩
    walk_at "g"
    exact ⟨_, _, _, _, rfl, ⟨hb1, hb2⟩, by omega, by omega, by decide, h⟩

/-! ### swap -/
def sp_swap : Sp := fun vs H Q _ => ∃ b d len far : Int, vs = [.int b, .int d, .int len, .int far] ∧ (2 ≤ b ∧ b ≤ 16) ∧ (1 ≤ d ∧ d ≤ 100) ∧ (1 ≤ len ∧ len ≤ 40) ∧ (1 ≤ far ∧ far ≤ 40) ∧ OptPair (slipBy b d (len - far).toNat (b ^ far.toNat - 1)) H Q
theorem ok_swap (T : Txt K mg Z) : FnOk P w K mg base CX0 3 Z.f_swap Z.d_swap p_swap sp_swap := by
  refine T.F_swap.ok sc_swap (fun vs H Q E h => ?_) (fun cdv A outer s H vs Q E hr h => ?_)
  · obtain ⟨_, _, _, _, rfl, _⟩ := h; rfl
  · obtain ⟨b, d, len, far, rfl, ⟨hb1, hb2⟩, ⟨hd1, hd2⟩, ⟨hl1, hl2⟩, ⟨hf1, hf2⟩, h⟩ := h
    refine ⟨_, (pss_cons (ps_expr (pe_call (ok_need_base T) (hr.mono (by decide)) rfl T.g_need_base T.F_need_base.kp T.b_need_base .nil pass0 (pa_cons (pv 0) pa_nil)))
    (pss_cons (ps_expr (pe_call (ok_need_divisor T) (hr.mono (by decide)) rfl T.g_need_divisor T.F_need_divisor.kp T.b_need_divisor .nil pass0 (pa_cons (pv 1) (pa_cons (pe_globI rfl T.v_MOST_DIVISOR) pa_nil))))
    (pss_cons (ps_expr (pe_call (ok_need_length T) (hr.mono (by decide)) rfl T.g_need_length T.F_need_length.kp T.b_need_length .nil pass0 (pa_cons (pv 2) pa_nil)))
    (pss_cons (ps_if (pt_not (pt_val (pe_call (ok_is_from T) (hr.mono (by decide)) rfl T.g_is_from T.F_is_from.kp T.b_is_from .nil pass0 (pa_cons (pv 3) (pa_cons pe_int (pa_cons (pe_globI rfl T.v_MOST_LENGTH) pa_nil)))))) (pss_one ps_never) pss_nil)
    (pss_one (ps_ret (pe_call (ok_slip_by T) (hr.mono (by decide)) rfl T.g_slip_by T.F_slip_by.kp T.b_slip_by .nil pass0 (pa_cons (pv 0) (pa_cons (pv 1) (pa_cons (pe_op op_sub (pv 2) (pv 3)) (pa_cons (pe_op op_sub (pe_call (ok_power T) (hr.mono (by decide)) rfl T.g_power T.F_power.kp T.b_power .nil pass0 (pa_cons (pv 0) (pa_cons (pv 3) pa_nil))) pe_int) pa_nil))))))))))), ?_⟩
    walk_at "g"
    refine ⟨_, _, _, _, rfl, ⟨hb1, hb2⟩, by omega, by omega, ?_, h⟩
    have e := pow_bits (b := b) (n := far.toNat) (m := 40) (by omega) hb2 (by omega)
    have e2 : (2 : Nat) ^ (4 * 40 + 1) + 1 < 2 ^ 400 := by decide
    omega

/-! ### law_taken -/
/-- the row of draws as it stands -/
def RowOk (sc : Addr) (o : HO) : Prop := ∃ i s c : Int, o = .lst [.ref sc, .int i, .int s, .int c] ∧ 0 ≤ i ∧ 0 ≤ s ∧ s < 2147483647 ∧ 0 ≤ c
def sp_law_taken (K : Frag) : Sp := fun vs H Q _ => ∃ (row sc : Addr) (o : HO) (ns : List Int) (m : Int), vs = [.ref row, .int m] ∧ H row = some o ∧ RowOk sc o ∧ SqL K H sc (ns.map V.int) ∧ 0 < m ∧ m < 10 ^ 60 ∧
  ∀ (r : Int) (o' : HO) (H' : Hp), 0 ≤ r → r < m → RowOk sc o' → H' row = some o' → (∀ b v, b ≠ row → H b = some v → H' b = some v) → Q (.int r) H'
theorem row_ne {K : Frag} {H : Hp} {row sc : Addr} {o : HO} {ns : List Int} (h : H row = some o) (r : RowOk sc o) (hs : SqL K H sc (ns.map V.int)) : SqL K (del1 H row) sc (ns.map V.int) := by
  obtain ⟨i, s, c, rfl, _⟩ := r
  have d : ∀ ns : List Int, (ns.map V.int) ≠ [.ref sc, .int i, .int s, .int c] := fun ns e => by
    cases ns with
    | nil => cases e
    | cons a l => injection e with e1 _; cases e1
  rcases hs with (hs | ⟨q, hs⟩) | hs
  · have ne : sc ≠ row := fun z => by
      rw [z, h] at hs
      injection hs with e
      injection e with e
      exact d ns e.symm
    exact .inl (.inl (by rw [del1_ne ne]; exact hs))
  · have ne : sc ≠ row := fun z => by
      rw [z, h] at hs
      injection hs with e
      cases e
    exact .inl (.inr ⟨q, by rw [del1_ne ne]; exact hs⟩)
  · exact .inr hs
theorem use_law_taken {K : Frag} {B H : Hp} {Lw : List (Addr × HO)} {row sc : Addr} {o : HO} {ns : List Int} {m : Int} {Q : VK} {E : XK} (O : Own B Lw H) (i : Nat) (hi : Lw[i]? = some (row, o)) (ho : RowOk sc o) (hs : SqL K B sc (ns.map V.int)) (h1 : 0 < m ∧ m < 10 ^ 60)
    (h : ∀ (r : Int) (o' : HO) (H' : Hp), 0 ≤ r → r < m → RowOk sc o' → Own B (Lw.set i (row, o')) H' → Q (.int r) H') : sp_law_taken K ([.ref row, .int m] ++ []) H Q E :=
  ⟨row, sc, o, ns, m, rfl, O.get i hi, ho, O.seq hs, h1.1, h1.2, fun r o' H' hr0 hr1 ho' h1 h2 => h r o' H' hr0 hr1 ho' (O.but i hi h2 h1)⟩
theorem ok_law_taken (T : Txt K mg Z) : FnOk P w K mg base CX0 1 Z.f_law_taken Z.d_law_taken p_law_taken (sp_law_taken K) := by
  refine T.F_law_taken.ok sc_law_taken (fun vs H Q E h => ?_) (fun cdv A outer s H vs Q E hr h => ?_)
  · obtain ⟨_, _, _, _, _, rfl, _⟩ := h; rfl
  · obtain ⟨row, sc, o, ns, m, rfl, hrow, hok, hs, hm0, hm1, h⟩ := h
    have hs1 := row_ne hrow hok hs
    have O := Own.refl1 hrow
    obtain ⟨i, s0, c, rfl, hi0, hs0, hs2, hc0⟩ := hok
    refine ⟨_, (pss_cons (ps_if (pt_cmpR op_gt (pe_ix (r := rIxL K) ix_list (pv 0) pe_int (fun _ _ => rfl)) pe_int (nomark _)) (pss_cons (ps_set (i := 2) sc_law_taken.nd rfl (Or.inl rfl) (pe_op op_mod (pe_callTy call_int1 (by rfl) T.n_int boot_int (pa_cons (pe_ix (r := rIxL K) ix_list (pv 0) pe_int (fun _ _ => rfl)) pa_nil)) (pv 1)))
    (pss_cons (ps_asg (pe_op op_fdivW (pe_ix (r := rIxL K) ix_list (pv 0) pe_int (fun _ _ => rfl)) (pv 1)) (pg_sub (pv 0) pe_int set_list))
    (pss_one (ps_ret (pv 2))))) pss_nil)
    (pss_cons (ps_asg (pe_op op_add (pe_ix (r := rIxL K) ix_list (pv 0) pe_int (fun _ _ => rfl)) pe_int) (pg_sub (pv 0) pe_int set_list))
    (pss_cons (ps_if (pt_cmpR op_gt (pe_ix (r := rIxL K) ix_list (pv 0) pe_int (fun _ _ => rfl)) (pe_callB (r := rLen K) call_lenR (by rfl) T.n_len boot_len (pa_cons (pe_ix (r := rIxL K) ix_list (pv 0) pe_int (fun _ _ => rfl)) pa_nil)) (nomark _)) (pss_cons (ps_asg (pe_op op_mod (pe_callTy call_int1 (by rfl) T.n_int boot_int (pa_cons (pe_op op_add (pe_op op_mulX (pe_ix (r := rIxL K) ix_list (pv 0) pe_int (fun _ _ => rfl)) pe_int) pe_int) pa_nil)) pe_int) (pg_sub (pv 0) pe_int set_list))
    (pss_one (ps_ret (pe_op op_mod (pe_callTy call_int1 (by rfl) T.n_int boot_int (pa_cons (pe_op op_fdivW (pe_ix (r := rIxL K) ix_list (pv 0) pe_int (fun _ _ => rfl)) pe_int) pa_nil)) (pv 1))))) pss_nil)
    (pss_cons (ps_set (i := 3) sc_law_taken.nd rfl (Or.inl rfl) (pe_ix (r := rIxL K) ix_list (pe_ix (r := rIxL K) ix_list (pv 0) pe_int (fun _ _ => rfl)) (pe_op op_sub (pe_ix (r := rIxL K) ix_list (pv 0) pe_int (fun _ _ => rfl)) pe_int) (fun _ _ => rfl)))
    (pss_cons (ps_asg (pe_op op_mod (pe_callTy call_int1 (by rfl) T.n_int boot_int (pa_cons (pe_op op_add (pe_op op_add (pe_op op_mulX (pe_ix (r := rIxL K) ix_list (pv 0) pe_int (fun _ _ => rfl)) pe_int) (pv 3)) pe_int) pa_nil)) pe_int) (pg_sub (pv 0) pe_int set_list))
    (pss_cons (ps_if (pt_cmpR op_ge (pv 3) (pe_op op_pow pe_int pe_int) (nomark _)) (pss_one (ps_asg (pe_op op_fdivW (pv 3) (pv 1)) (pg_sub (pv 0) pe_int set_list))) pss_nil)
    (pss_one (ps_ret (pe_op op_mod (pe_callTy call_int1 (by rfl) T.n_int boot_int (pa_cons (pv 3) pa_nil)) (pv 1)))))))))), ?_⟩
    walk_at "g"
    refine a_it2 (fun c1 => ?_) (fun c1 => ?_)
    · walk_at "g"
      refine h _ _ _ (Int.emod_nonneg _ (by omega)) (Int.emod_lt_of_pos _ hm0) ?_ (Own.get (by assumption) 0 rfl) (Own.toBut (by assumption))
      exact ⟨_, _, _, rfl, hi0, hs0, hs2, Int.ediv_nonneg hc0 (by omega)⟩
    · walk_at "g"
      refine a_it2 (fun c2 => ?_) (fun c2 => ?_)
      · walk_at "g"
        refine h _ _ _ (Int.emod_nonneg _ (by omega)) (Int.emod_lt_of_pos _ hm0) ?_ (Own.get (by assumption) 0 rfl) (Own.toBut (by assumption))
        exact ⟨_, _, _, rfl, by omega, by omega, by omega, hc0⟩
      · rw [List.length_map] at c2
        have hlt : i.toNat < ns.length := by omega
        walk_at "g"
        refine a_ixL (v := .int (ns[i.toNat])) (Own.seq (by assumption) hs1) (at0 (j := i.toNat) (by omega) (by rw [List.getElem?_map, List.getElem?_eq_getElem hlt]; rfl)) ?_
        generalize ns[i.toNat] = cell
        walk_at "g"
        refine a_it2 (fun c3 => ?_) (fun c3 => ?_)
        · walk_at "g"
          refine h _ _ _ (Int.emod_nonneg _ (by omega)) (Int.emod_lt_of_pos _ hm0) ?_ (Own.get (by assumption) 0 rfl) (Own.toBut (by assumption))
          exact ⟨_, _, _, rfl, by omega, by omega, by omega, Int.ediv_nonneg (by omega) (by omega)⟩
        · walk_at "g"
          refine h _ _ _ (Int.emod_nonneg _ (by omega)) (Int.emod_lt_of_pos _ hm0) ?_ (Own.get (by assumption) 0 rfl) (Own.toBut (by assumption))
          exact ⟨_, _, _, rfl, by omega, by omega, by omega, hc0⟩

/-! ### law_power -/
def sp_law_power : Sp := fun vs H Q _ => ∃ b m : Int, vs = [.int b, .int m] ∧ -(2 ^ 62) ≤ m ∧ m < 2 ^ 62 ∧ -(2 ^ 64) < b ∧ b < 2 ^ 64 ∧ Q (.int (b ^ m.toNat)) H
theorem use_law_power {b m : Int} {H : Hp} {Q : VK} {E : XK} (h1 : -(2 ^ 62) ≤ m ∧ m < 2 ^ 62 ∧ -(2 ^ 64) < b ∧ b < 2 ^ 64) (h : Q (.int (b ^ m.toNat)) H) : sp_law_power ([.int b, .int m] ++ []) H Q E := ⟨_, _, rfl, h1.1, h1.2.1, h1.2.2.1, h1.2.2.2, h⟩
theorem ok_law_power (T : Txt K mg Z) : FnOk P w K mg base CX0 1 Z.f_law_power Z.d_law_power p_law_power sp_law_power := by
  refine T.F_law_power.ok sc_law_power (fun vs H Q E h => ?_) (fun cdv A outer s H vs Q E hr h => ?_)
  · obtain ⟨_, _, rfl, _⟩ := h; rfl
  · obtain ⟨b, m, rfl, h1, h2, h3, h4, h⟩ := h
    refine ⟨_, (pss_cons (ps_set (i := 2) sc_law_power.nd rfl (Or.inl rfl) pe_int)
    (pss_cons (ps_for PassesOwn.never rfl (pi_range1 rfl T.n_range (pa_cons (pv 1) pa_nil)) (pg_name (i := 3) sc_law_power.nd rfl (Or.inl rfl))
    (pss_one (ps_set (i := 2) sc_law_power.nd rfl (Or.inl rfl) (pe_op op_mulX (pv 2) (pv 0)))))
    (pss_one (ps_ret (pv 2))))), ?_⟩
    walk_at "g"
    refine for_range (fun i σ H' => H' = H ∧ ∃ v, σ = [some (.int b), some (.int m), some (.int (b ^ i)), v]) ⟨rfl, none, by rw [Int.pow_zero]; rfl⟩ ?_ ?_
    · rintro i σ H' hi ⟨rfl, v, rfl⟩
      walk_at "g"
      exact ⟨rfl, _, by rw [Int.pow_succ]; rfl⟩
    · rintro σ H' ⟨rfl, v, rfl⟩
      walk_at "g"
      exact h
-- @USE
local macro_rules | `(tactic| walk_at "c") => `(tactic| ((with_reducible refine use_law_power ?h1 ?h2); (case h1 => omega)))

/-! ### law -/
def sp_law (K : Frag) : Sp := fun vs H Q _ => ∃ (a : Addr) (ns : List Int), vs = [.ref a] ∧ SqL K H a (ns.map V.int) ∧ ns.length ≤ 63 ∧ ∀ H', Q (.bl true) H'
/-- figures in a base -/
def Figs (b : Int) (fs : List Int) : Prop := ∀ x ∈ fs, 0 ≤ x ∧ x < b
theorem figs_snoc {b x : Int} {fs : List Int} (h : Figs b fs) (h0 : 0 ≤ x) (h1 : x < b) : Figs b (fs ++ [x]) := fun y hy => by
  rcases List.mem_append.mp hy with z | z
  · exact h y z
  · have e : y = x := by simpa using z
    rw [e]; exact ⟨h0, h1⟩
/-- a hit of slipBy -/
theorem slip_some {b d f : Int} {len pl : Nat} {ls : Int} (h : slipBy b d len f = some (pl, ls)) : pl < len ∧ 1 ≤ ls ∧ ls < b ∧ ls * f * b ^ pl % d = 0 := by
  unfold slipBy at h
  obtain ⟨p, hp, e⟩ := List.exists_of_findSome?_eq_some h
  rw [Option.map_eq_some_iff] at e
  obtain ⟨x, hx, e⟩ := e
  cases e
  unfold slipIn at hx
  obtain ⟨j, hj, e⟩ := List.exists_of_findSome?_eq_some hx
  have h1 := List.mem_range.mp hp
  have h2 := List.mem_range.mp hj
  split at e
  · rename_i c
    cases e
    exact ⟨h1, by omega, by omega, c⟩
  · cases e
/-- no hit -/
theorem slip_none {b d f : Int} {len : Nat} (h : slipBy b d len f = none) {pl : Nat} {x : Int} (hp : pl < len) (h1 : 1 ≤ x) (h2 : x < b) : x * f * b ^ pl % d ≠ 0 := by
  intro c
  unfold slipBy at h
  rw [List.findSome?_eq_none_iff] at h
  have q := h pl (List.mem_range.mpr hp)
  rw [Option.map_eq_none_iff] at q
  unfold slipIn at q
  rw [List.findSome?_eq_none_iff] at q
  have q2 := q (x - 1).toNat (List.mem_range.mpr (by omega))
  have e : 1 + (((x - 1).toNat : Nat) : Int) = x := by omega
  rw [e, if_pos c] at q2
  cases q2
/-- the same by a difference of any sign -/
theorem slip_none2 {b d f : Int} {len : Nat} (h : slipBy b d len f = none) {pl : Nat} {x : Int} (hp : pl < len) (h0 : x ≠ 0) (h1 : -b < x) (h2 : x < b) : x * f * b ^ pl % d ≠ 0 := by
  by_cases s : 0 < x
  · exact slip_none h hp (by omega) h2
  · intro c
    refine slip_none h hp (x := -x) (by omega) (by omega) ?_
    have e : -x * f * b ^ pl = -(x * f * b ^ pl) := by rw [Int.neg_mul, Int.neg_mul]
    rw [e]
    exact Int.emod_eq_zero_of_dvd ((Int.dvd_neg).mpr (Int.dvd_of_emod_eq_zero c))
theorem same_rest {n x d : Int} (h : (n + x) % d = n % d) : x % d = 0 := by
  have e := Int.emod_emod_of_dvd (n + x) (Int.dvd_refl d)
  have q : (n + x - n) % d = 0 := by
    rw [Int.sub_emod, h, Int.sub_self, Int.zero_emod]
  have z : n + x - n = x := by omega
  rw [z] at q; exact q
theorem rest_same {n x d : Int} (h : x % d = 0) : (n + x) % d = n % d := by
  obtain ⟨k, rfl⟩ := Int.dvd_of_emod_eq_zero h
  exact Int.add_mul_emod_self_left n d k
theorem swap_alg2 (n x y b : Int) (i far : Nat) : n + (y - x) * b ^ i + (x - y) * b ^ (i + far) = n + (x - y) * (b ^ far - 1) * b ^ i := by
  have e1 : y - x = -(x - y) := by omega
  rw [e1]
  generalize x - y = u
  rw [Int.pow_add, Int.neg_mul, Int.mul_sub, Int.sub_mul, Int.mul_one, Int.mul_assoc u (b ^ far), Int.mul_comm (b ^ far) (b ^ i)]
  omega
theorem ok_law (T : Txt K mg Z) : FnOk P w K mg base CX0 4 Z.f_law Z.d_law p_law (sp_law K) := by
  refine T.F_law.ok sc_law (fun vs H Q E h => ?_) (fun cdv A outer s H vs Q E hr h => ?_)
  · obtain ⟨_, _, rfl, _⟩ := h; rfl
  · obtain ⟨a, ns, rfl, hS, hlen, h⟩ := h
    have O := Own.refl H
    refine ⟨_, (pss_cons (ps_set (i := 1) sc_law.nd rfl (Or.inr rfl) (pe_lst (pa_cons (pv 0) (pa_cons pe_int (pa_cons pe_int (pa_cons pe_int pa_nil))))))
    (pss_cons (ps_for PassesOwn.never rfl (pi_range1 rfl T.n_range (pa_cons pe_int pa_nil)) (pg_name (i := 2) sc_law.nd rfl (Or.inl rfl))
    (pss_cons (ps_asg (pe_tup (pa_cons (pe_op op_add pe_int (pe_call (ok_law_taken T) (hr.mono (by decide)) rfl T.g_law_taken T.F_law_taken.kp T.b_law_taken .nil pass0 (pa_cons (pv 1) (pa_cons pe_int pa_nil)))) (pa_cons (pe_op op_add pe_int (pe_call (ok_law_taken T) (hr.mono (by decide)) rfl T.g_law_taken T.F_law_taken.kp T.b_law_taken .nil pass0 (pa_cons (pv 1) (pa_cons pe_int pa_nil)))) (pa_cons (pe_op op_add pe_int (pe_call (ok_law_taken T) (hr.mono (by decide)) rfl T.g_law_taken T.F_law_taken.kp T.b_law_taken .nil pass0 (pa_cons (pv 1) (pa_cons pe_int pa_nil)))) pa_nil)))) (pg_tup rfl (pgs_cons (pg_name (i := 3) sc_law.nd rfl (Or.inr rfl)) (pgs_cons (pg_name (i := 4) sc_law.nd rfl (Or.inl rfl)) (pgs_cons (pg_name (i := 5) sc_law.nd rfl (Or.inl rfl)) pgs_nil)))))
    (pss_cons (ps_set (i := 6) sc_law.nd rfl (Or.inr rfl) (pe_lc (own := [("_law_k", 16)]) (tt := tYes) rfl sc_law.nd (pi_range1 rfl T.n_range (pa_cons (pv 5) pa_nil)) (blkOk_by (N := N_law) (sc := defScope s_law) (by decide +kernel)) (fun _ _ _ _ _ => (pg_name (i := 16) sc_law.nd rfl (Or.inl rfl))) (fun _ _ _ _ _ => pts_nil) (fun _ _ _ _ _ => (pe_call (ok_law_taken T) (hr.mono (by decide)) rfl T.g_law_taken T.F_law_taken.kp T.b_law_taken .nil pass0 (pa_cons (pv 1) (pa_cons (pv 3) pa_nil))))))
    (pss_cons (ps_set (i := 7) sc_law.nd rfl (Or.inl rfl) (pe_callB (r := rSum K) (cr_sum rfl) (by rfl) T.n_sum boot_sum (pa_cons (pe_lc (own := [("_law_at", 10)]) (tt := tYes) rfl sc_law.nd (pi_range1 rfl T.n_range (pa_cons (pv 5) pa_nil)) (blkOk_by (N := N_law) (sc := defScope s_law) (by decide +kernel)) (fun _ _ _ _ _ => (pg_name (i := 10) sc_law.nd rfl (Or.inl rfl))) (fun _ _ _ _ _ => pts_nil) (fun _ _ _ _ _ => (pe_op op_mulX (pe_ix (r := rIxL K) ix_list (pv 6) (pv 10) (fun _ _ => rfl)) (pe_call (ok_law_power T) (hr.mono (by decide)) rfl T.g_law_power T.F_law_power.kp T.b_law_power .nil pass0 (pa_cons (pv 3) (pa_cons (pv 10) pa_nil)))))) pa_nil)))
    (pss_cons (ps_set (i := 8) sc_law.nd rfl (Or.inl rfl) (pe_call (ok_slip T) (hr.mono (by decide)) rfl T.g_slip T.F_slip.kp T.b_slip .nil pass0 (pa_cons (pv 3) (pa_cons (pv 4) (pa_cons (pv 5) pa_nil)))))
    (pss_cons (ps_if (PW.pt (pw_and (pt_cmpR op_notN1 (pv 8) pe_non (nomark _)) (pw_and1 (pt_cmpR op_ne (pe_op op_mod (pe_op op_mulX (pe_ix (r := rIxT K) ix_tup (pv 8) pe_int (fun _ _ => rfl)) (pe_call (ok_law_power T) (hr.mono (by decide)) rfl T.g_law_power T.F_law_power.kp T.b_law_power .nil pass0 (pa_cons (pv 3) (pa_cons (pe_ix (r := rIxT K) ix_tup (pv 8) pe_int (fun _ _ => rfl)) pa_nil)))) (pv 4)) pe_int (nomark _))))) (pss_one (ps_ret pe_bl)) pss_nil)
    (pss_cons (ps_for PassesOwn.never rfl (pi_range1 rfl T.n_range (pa_cons pe_int pa_nil)) (pg_name (i := 9) sc_law.nd rfl (Or.inl rfl))
    (pss_cons (ps_par (i := 10) (j := 11) (by rfl) sc_law.nd rfl rfl (by decide) rfl rfl (pa_cons (pe_call (ok_law_taken T) (hr.mono (by decide)) rfl T.g_law_taken T.F_law_taken.kp T.b_law_taken .nil pass0 (pa_cons (pv 1) (pa_cons (pv 5) pa_nil))) (pa_cons (pe_call (ok_law_taken T) (hr.mono (by decide)) rfl T.g_law_taken T.F_law_taken.kp T.b_law_taken .nil pass0 (pa_cons (pv 1) (pa_cons (pv 3) pa_nil))) pa_nil)) (by rfl))
    (pss_cons (ps_set (i := 12) sc_law.nd rfl (Or.inl rfl) (pe_op op_add (pv 7) (pe_op op_mulX (pe_op op_sub (pv 11) (pe_ix (r := rIxL K) ix_list (pv 6) (pv 10) (fun _ _ => rfl))) (pe_call (ok_law_power T) (hr.mono (by decide)) rfl T.g_law_power T.F_law_power.kp T.b_law_power .nil pass0 (pa_cons (pv 3) (pa_cons (pv 10) pa_nil))))))
    (pss_one (ps_if (PW.pt (pw_and (pt_cmpR op_isN1 (pv 8) pe_non (nomark _)) (pw_and (pt_cmpR op_ne (pv 12) (pv 7) (nomark _)) (pw_and1 (pt_cmpR op_eq (pe_op op_mod (pv 12) (pv 4)) (pe_op op_mod (pv 7) (pv 4)) (nomark _)))))) (pss_one (ps_ret pe_bl)) pss_nil)))))
    (pss_cons (ps_set (i := 13) sc_law.nd rfl (Or.inl rfl) (pe_op op_add pe_int (pe_call (ok_law_taken T) (hr.mono (by decide)) rfl T.g_law_taken T.F_law_taken.kp T.b_law_taken .nil pass0 (pa_cons (pv 1) (pa_cons (pe_op op_sub (pv 5) pe_int) pa_nil)))))
    (pss_cons (ps_set (i := 8) sc_law.nd rfl (Or.inl rfl) (pe_call (ok_swap T) (hr.mono (by decide)) rfl T.g_swap T.F_swap.kp T.b_swap .nil pass0 (pa_cons (pv 3) (pa_cons (pv 4) (pa_cons (pv 5) (pa_cons (pv 13) pa_nil))))))
    (pss_one (ps_for PassesOwn.never rfl (pi_range1 rfl T.n_range (pa_cons (pe_op op_sub (pv 5) (pv 13)) pa_nil)) (pg_name (i := 10) sc_law.nd rfl (Or.inl rfl))
    (pss_cons (ps_par (i := 14) (j := 15) (by rfl) sc_law.nd rfl rfl (by decide) rfl rfl (pa_cons (pe_ix (r := rIxL K) ix_list (pv 6) (pv 10) (fun _ _ => rfl)) (pa_cons (pe_ix (r := rIxL K) ix_list (pv 6) (pe_op op_add (pv 10) (pv 13)) (fun _ _ => rfl)) pa_nil)) (by rfl))
    (pss_cons (ps_set (i := 12) sc_law.nd rfl (Or.inl rfl) (pe_op op_add (pe_op op_add (pv 7) (pe_op op_mulX (pe_op op_sub (pv 15) (pv 14)) (pe_call (ok_law_power T) (hr.mono (by decide)) rfl T.g_law_power T.F_law_power.kp T.b_law_power .nil pass0 (pa_cons (pv 3) (pa_cons (pv 10) pa_nil))))) (pe_op op_mulX (pe_op op_sub (pv 14) (pv 15)) (pe_call (ok_law_power T) (hr.mono (by decide)) rfl T.g_law_power T.F_law_power.kp T.b_law_power .nil pass0 (pa_cons (pv 3) (pa_cons (pe_op op_add (pv 10) (pv 13)) pa_nil))))))
    (pss_cons (ps_if (PW.pt (pw_and (pt_cmpR op_isN1 (pv 8) pe_non (nomark _)) (pw_and (pt_cmpR op_ne (pv 14) (pv 15) (nomark _)) (pw_and1 (pt_cmpR op_eq (pe_op op_mod (pv 12) (pv 4)) (pe_op op_mod (pv 7) (pv 4)) (nomark _)))))) (pss_one (ps_ret pe_bl)) pss_nil)
    (pss_one (ps_if (PW.pt (pw_and (pt_cmpR op_notN1 (pv 8) pe_non (nomark _)) (pw_and (pt_cmpR op_eq (pe_ix (r := rIxT K) ix_tup (pv 8) pe_int (fun _ _ => rfl)) (pv 10) (nomark _)) (pw_and (pt_cmpR op_eq (pe_callB call_absR (by rfl) T.n_abs boot_abs (pa_cons (pe_op op_sub (pv 14) (pv 15)) pa_nil)) (pe_ix (r := rIxT K) ix_tup (pv 8) pe_int (fun _ _ => rfl)) (nomark _)) (pw_and1 (pt_cmpR op_ne (pe_op op_mod (pv 12) (pv 4)) (pe_op op_mod (pv 7) (pv 4)) (nomark _))))))) (pss_one (ps_ret pe_bl)) pss_nil))))))))))))))))
    (pss_one (ps_ret pe_bl)))), ?_⟩
    walk_at "g"; walk_at "mkL"; intro row H1 hrow O
    have ok : RowOk a (.lst [.ref a, .int 0, .int 128, .int 0]) := ⟨0, 128, 0, rfl, by decide, by decide, by decide, by decide⟩
    walk_at "g"
    refine for_range (fun t σ H' => ∃ v2 v3 v4 v5 v6 v7 v8 v9 v10 v11 v12 v13 v14 v15 v16 o, σ = [some (.ref a), some (.ref row), v2, v3, v4, v5, v6, v7, v8, v9, v10, v11, v12, v13, v14, v15, v16] ∧ RowOk a o ∧ Own H [(row, o)] H')
      ⟨none, none, none, none, none, none, none, none, none, none, none, none, none, none, none, _, rfl, ok, O⟩ ?_ ?_
    · clear O ok
      rintro t σ H' ht ⟨v2, v3, v4, v5, v6, v7, v8, v9, v10, v11, v12, v13, v14, v15, v16, o, rfl, ok, O⟩
      walk_at "g"
      refine use_law_taken O 0 rfl ok hS (by omega) (fun b o H2 hb0 hb1 ok O => ?_)
      walk_at "g"
      refine use_law_taken O 0 rfl ok hS (by omega) (fun d o H2 hd0 hd1 ok O => ?_)
      walk_at "g"
      refine use_law_taken O 0 rfl ok hS (by omega) (fun l o H2 hl0 hl1 ok O => ?_)
      walk_at "g"; walk_at "mkT"; intro p H3 hp O
      walk_at "g"
      have O := Own.tail O
      intro D hD
      have O := Own.new (o := .lst []) O hD
      refine lc_range (fun i H' => ∃ o fs, RowOk a o ∧ Figs (2 + b) fs ∧ fs.length = i ∧ Own H [(D, .lst (fs.map V.int)), (row, o)] H') ⟨o, [], ok, fun _ h => by simp at h, rfl, O⟩ ?_ ?_
      · clear O ok
        rintro i H' hi ⟨o, fs, ok, hf, hfl, O⟩
        walk_at "g"
        refine ⟨rfl, ?_⟩
        walk_at "g"
        refine use_law_taken O 1 rfl ok hS (by omega) (fun x o H2 hx0 hx1 ok O => ?_)
        walk_at "g"
        refine ⟨_, Own.get O 0 rfl, ?_, ?_⟩
        · have e : (fs.map V.int).length = i := by rw [List.length_map, hfl]
          rw [e]
          exact Nat.lt_of_lt_of_le (by omega : i < 100) (by decide)
        · have O := Own.put (u := .lst (fs.map V.int ++ [.int x])) O 0 rfl
          refine ⟨_, fs ++ [x], ok, figs_snoc hf hx0 hx1, by rw [List.length_append, hfl]; rfl, ?_⟩
          rw [List.map_append]
          exact O
      clear O ok
      rintro H' ⟨o, fs, ok, hf, hfl, O⟩
      walk_at "g"
      intro D2 hD2
      have O := Own.new (o := .lst []) O hD2
      refine lc_range (fun i H' => ∃ ps, ps.length = i ∧ Own H [(D2, .lst ((ps : List Int).map V.int)), (D, .lst (fs.map V.int)), (row, o)] H') ⟨[], rfl, O⟩ ?_ ?_
      · clear O
        rintro i H' hi ⟨ps, hps, O⟩
        walk_at "g"
        refine ⟨rfl, ?_⟩
        walk_at "g"
        refine a_ixI O 1 rfl (by omega) (by omega) ?_
        have hx := hf _ (List.getElem_mem (show (0 + (i : Int)).toNat < fs.length by omega))
        generalize fs[(0 + (i : Int)).toNat]'_ = x at *
        walk_at "g"
        refine ⟨_, Own.get O 0 rfl, ?_, ?_⟩
        · have e : (ps.map V.int).length = i := by rw [List.length_map, hps]
          rw [e]
          exact Nat.lt_of_lt_of_le (by omega : i < 100) (by decide)
        · have O := Own.put (u := .lst (ps.map V.int ++ [.int (x * (2 + b) ^ (0 + (i : Int)).toNat)])) O 0 rfl
          refine ⟨ps ++ [x * (2 + b) ^ (0 + (i : Int)).toNat], by rw [List.length_append, hps]; rfl, ?_⟩
          rw [List.map_append]
          exact O
      clear O
      rintro H' ⟨ps, hps, O⟩
      walk_at "g"
      refine a_sum (Own.sq O 0 rfl) ?_
      have O := Own.tail O
      generalize ps.sum = n
      walk_at "g"
      -- one change: of the figures it knows their bounds alone
      have fig : ∀ z : Int, 0 ≤ z → z < 2 + l → ∃ hz : z.toNat < fs.length, 0 ≤ fs[z.toNat] ∧ fs[z.toNat] < 2 + b := fun z h0 h1 => ⟨by omega, hf _ (List.getElem_mem _)⟩
      refine ⟨_, _, _, rfl, by omega, by omega, by omega, use_pairJ O (fun w8 B H' sB O pv => ?_)⟩
      walk_at "h"
      with_reducible refine a_ifNo (fun QB hq => ?_) ?_
      · rcases pv with ⟨_, rfl⟩ | ⟨pl, ls, q, e, rfl, hq2⟩
        · walk_at "g"; exact hq
        · have z := slip_some e
          walk_at "g"
          refine a_ixT (K := K) (.inl (.inl (O.st _ _ hq2))) rfl ?_
          walk_at "g"
          refine a_ixT (K := K) (.inl (.inl (O.st _ _ hq2))) rfl ?_
          walk_at "g"
          have z2 := z.2.2.2
          rw [Int.mul_one] at z2
          exact q_nT hq z2
      walk_at "g"
      refine for_range (fun i σ H' => ∃ v9 v10 v11 v12 o, σ = [some (.ref a), some (.ref row), some (.int t), some (.int (2 + b)), some (.int (1 + d)), some (.int (2 + l)), some (.ref D), some (.int n), some w8, v9, v10, v11, v12, v13, v14, v15, v16] ∧ RowOk a o ∧ Own B [(D, .lst (fs.map V.int)), (row, o)] H')
        ⟨_, _, _, _, _, (by rw [Int.zero_add]; rfl), ok, O⟩ ?_ ?_
      · clear O ok
        rintro i σ H' hi ⟨v9, v10, v11, v12, o, rfl, ok, O⟩
        walk_at "g"
        refine use_law_taken O 1 rfl ok (sB.seq hS) (by omega) (fun x o H2 hx0 hx1 ok O => ?_)
        walk_at "g"
        refine use_law_taken O 1 rfl ok (sB.seq hS) (by omega) (fun y o H2 hy0 hy1 ok O => ?_)
        obtain ⟨hz, hz0, hz1⟩ := fig x hx0 hx1
        walk_at "g"
        refine a_ixI O 0 rfl hx0 hz ?_
        generalize fs[x.toNat]'_ = f at *
        walk_at "h"
        with_reducible refine a_ifNo (fun QB hq => ?_) ?_
        · rcases pv with ⟨e, rfl⟩ | ⟨pl, ls, q, e, rfl, hq2⟩
          · walk_at "g"
            refine a_ni2 (fun c => ?_) (fun c => ?_)
            · walk_at "g"; exact hq
            · walk_at "g"
              refine q_F hq (fun c2 => ?_)
              have z := slip_none2 e (pl := x.toNat) (x := y - f) (by omega) ?_ (by omega) (by omega)
              · rw [Int.mul_one] at z
                exact z (same_rest c2)
              · intro z
                rw [z, Int.zero_mul] at c
                exact c (Int.add_zero n)
          · walk_at "g"; exact hq
        · walk_at "g"
          exact ⟨_, _, _, _, _, rfl, ok, O⟩
      · clear O ok
        rintro σ H' ⟨v9, v10, v11, v12, o, rfl, ok, O⟩
        walk_at "g"
        refine use_law_taken O 1 rfl ok (sB.seq hS) (by omega) (fun far o H2 hf0 hf1 ok O => ?_)
        walk_at "g"
        clear pv
        refine ⟨_, _, _, _, rfl, by omega, by omega, by omega, by omega, use_pairJ O (fun w8 B2 H' sB2 O pv => ?_)⟩
        walk_at "g"
        refine for_range (fun i σ H' => ∃ v10 v12 v14 v15, σ = [some (.ref a), some (.ref row), some (.int t), some (.int (2 + b)), some (.int (1 + d)), some (.int (2 + l)), some (.ref D), some (.int n), some w8, v9, v10, v11, v12, some (.int (1 + far)), v14, v15, v16] ∧ Own B2 [(D, .lst (fs.map V.int)), (row, o)] H')
          ⟨_, _, _, _, rfl, O⟩ ?_ ?_
        · clear O
          rintro i σ H' hi ⟨v10, v12, v14, v15, rfl, O⟩
          walk_at "g"
          obtain ⟨hz, hz0, hz1⟩ := fig (0 + (i : Int)) (by omega) (by omega)
          refine a_ixI O 0 rfl (by omega) hz ?_
          generalize fs[(0 + (i : Int)).toNat]'_ = f at *
          walk_at "g"
          obtain ⟨hy, hy0, hy1⟩ := fig (0 + (i : Int) + (1 + far)) (by omega) (by omega)
          refine a_ixI O 0 rfl (by omega) hy ?_
          generalize fs[(0 + (i : Int) + (1 + far)).toNat]'_ = g at *
          walk_at "h"
          have e1 : (0 + (i : Int)).toNat = i := by omega
          have e2 : (0 + (i : Int) + (1 + far)).toNat = i + (1 + far).toNat := by omega
          rw [e1, e2, swap_alg2]
          with_reducible refine a_ifNo (fun QB hq => ?_) ?_
          · rcases pv with ⟨e, rfl⟩ | ⟨pl, ls, q, e, rfl, hq2⟩
            · walk_at "g"
              refine a_ni2 (fun c => ?_) (fun c => ?_)
              · walk_at "g"; exact hq
              · walk_at "g"
                refine q_F hq (fun c2 => ?_)
                exact slip_none2 e (pl := i) (x := f - g) (by omega) (by omega) (by omega) (by omega) (same_rest c2)
            · walk_at "g"; exact hq
          · walk_at "h"
            with_reducible refine a_ifNo (fun QB hq => ?_) ?_
            · rcases pv with ⟨e, rfl⟩ | ⟨pl, ls, q, e, rfl, hq2⟩
              · walk_at "g"; exact hq
              · have z := slip_some e
                walk_at "g"
                refine a_ixT (K := K) (.inl (.inl (O.st _ _ hq2))) rfl ?_
                walk_at "g"
                refine a_it2 (fun c => ?_) (fun c => ?_)
                · walk_at "g"
                  refine a_ixT (K := K) (.inl (.inl (O.st _ _ hq2))) rfl ?_
                  walk_at "g"
                  refine a_it2 (fun c2 => ?_) (fun c2 => ?_)
                  · walk_at "g"
                    refine q_nT hq ?_
                    refine rest_same ?_
                    have ei : pl = i := by omega
                    rw [ei] at z
                    by_cases s : f - g < 0
                    · have e3 : f - g = -ls := by omega
                      rw [e3, Int.neg_mul, Int.neg_mul]
                      exact Int.emod_eq_zero_of_dvd ((Int.dvd_neg).mpr (Int.dvd_of_emod_eq_zero z.2.2.2))
                    · have e3 : f - g = ls := by omega
                      rw [e3]; exact z.2.2.2
                  · walk_at "g"; exact hq
                · walk_at "g"; exact hq
            · walk_at "g"
              exact ⟨_, _, _, _, rfl, O⟩
        · clear O
          rintro σ H' ⟨v10, v12, v14, v15, rfl, O⟩
          walk_at "g"
          exact ⟨_, _, _, _, _, _, _, _, _, _, _, _, _, _, _, o, rfl, ok, (Own.sub O (sB.trans sB2)).tail⟩
    · rintro σ H' ⟨v2, v3, v4, v5, v6, v7, v8, v9, v10, v11, v12, v13, v14, v15, v16, o, rfl, ok, O⟩
      walk_at "g"
      exact h _

end
theorem all_mk {l : PySem.W.OpenLaw} {w : World} {K : Frag} {h : Heap} {mg : Str → Option Value} {fa f0 f1 f2 f3 f4 f5 f6 f7 f8 f9 f10 : Addr} (X : K.In h) (G : h.Ns mainGlobals mg) (hfa : mg "law" = some (.ref fa))
    {od0 an0 : Option Addr} {sl0 : Array (Option Value)} {oc0 kV0 dc0 pm0 cd0 ct0 : Value}
    {od1 an1 : Option Addr} {sl1 : Array (Option Value)} {oc1 kV1 dc1 pm1 cd1 ct1 : Value}
    {od2 an2 : Option Addr} {sl2 : Array (Option Value)} {oc2 kV2 dc2 pm2 cd2 ct2 : Value}
    {od3 an3 : Option Addr} {sl3 : Array (Option Value)} {oc3 kV3 dc3 pm3 cd3 ct3 : Value}
    {od4 an4 : Option Addr} {sl4 : Array (Option Value)} {oc4 kV4 dc4 pm4 cd4 ct4 : Value}
    {od5 an5 : Option Addr} {sl5 : Array (Option Value)} {oc5 kV5 dc5 pm5 cd5 ct5 : Value}
    {od6 an6 : Option Addr} {sl6 : Array (Option Value)} {oc6 kV6 dc6 pm6 cd6 ct6 : Value}
    {od7 an7 : Option Addr} {sl7 : Array (Option Value)} {oc7 kV7 dc7 pm7 cd7 ct7 : Value}
    {od8 an8 : Option Addr} {sl8 : Array (Option Value)} {oc8 kV8 dc8 pm8 cd8 ct8 : Value}
    {od9 an9 : Option Addr} {sl9 : Array (Option Value)} {oc9 kV9 dc9 pm9 cd9 ct9 : Value}
    {od10 an10 : Option Addr} {sl10 : Array (Option Value)} {oc10 kV10 dc10 pm10 cd10 ct10 : Value}
    {tk_LEAST_BASE : Tok}
    {tk_MOST_BASE : Tok}
    {tk_MOST_DIVISOR : Tok}
    {tk_MOST_LENGTH : Tok}
    (a0 : PySem.W.nsIn K mainGlobals "is_from" = some (some (.ref f0)))
    (l0 : K.lookup f0 = some ⟨oc0, od0, .func (PySem.W.fnOf "is_from" "is_from" (defArgs s_is_from) (defBody s_is_from) (defScope s_is_from) .none kV0 dc0 pm0 an0 cd0 ct0), sl0⟩)
    (c0 : PySem.W.codeIn K cd0 "is_from" = true)
    (k0 : PySem.W.keepIn K (.ref f0) = true)
    (a1 : PySem.W.nsIn K mainGlobals "need_base" = some (some (.ref f1)))
    (l1 : K.lookup f1 = some ⟨oc1, od1, .func (PySem.W.fnOf "need_base" "need_base" (defArgs s_need_base) (defBody s_need_base) (defScope s_need_base) .none kV1 dc1 pm1 an1 cd1 ct1), sl1⟩)
    (c1 : PySem.W.codeIn K cd1 "need_base" = true)
    (k1 : PySem.W.keepIn K (.ref f1) = true)
    (a2 : PySem.W.nsIn K mainGlobals "need_divisor" = some (some (.ref f2)))
    (l2 : K.lookup f2 = some ⟨oc2, od2, .func (PySem.W.fnOf "need_divisor" "need_divisor" (defArgs s_need_divisor) (defBody s_need_divisor) (defScope s_need_divisor) .none kV2 dc2 pm2 an2 cd2 ct2), sl2⟩)
    (c2 : PySem.W.codeIn K cd2 "need_divisor" = true)
    (k2 : PySem.W.keepIn K (.ref f2) = true)
    (a3 : PySem.W.nsIn K mainGlobals "power" = some (some (.ref f3)))
    (l3 : K.lookup f3 = some ⟨oc3, od3, .func (PySem.W.fnOf "power" "power" (defArgs s_power) (defBody s_power) (defScope s_power) .none kV3 dc3 pm3 an3 cd3 ct3), sl3⟩)
    (c3 : PySem.W.codeIn K cd3 "power" = true)
    (k3 : PySem.W.keepIn K (.ref f3) = true)
    (a4 : PySem.W.nsIn K mainGlobals "need_length" = some (some (.ref f4)))
    (l4 : K.lookup f4 = some ⟨oc4, od4, .func (PySem.W.fnOf "need_length" "need_length" (defArgs s_need_length) (defBody s_need_length) (defScope s_need_length) .none kV4 dc4 pm4 an4 cd4 ct4), sl4⟩)
    (c4 : PySem.W.codeIn K cd4 "need_length" = true)
    (k4 : PySem.W.keepIn K (.ref f4) = true)
    (a5 : PySem.W.nsIn K mainGlobals "slip_by" = some (some (.ref f5)))
    (l5 : K.lookup f5 = some ⟨oc5, od5, .func (PySem.W.fnOf "slip_by" "slip_by" (defArgs s_slip_by) (defBody s_slip_by) (defScope s_slip_by) .none kV5 dc5 pm5 an5 cd5 ct5), sl5⟩)
    (c5 : PySem.W.codeIn K cd5 "slip_by" = true)
    (k5 : PySem.W.keepIn K (.ref f5) = true)
    (a6 : PySem.W.nsIn K mainGlobals "slip" = some (some (.ref f6)))
    (l6 : K.lookup f6 = some ⟨oc6, od6, .func (PySem.W.fnOf "slip" "slip" (defArgs s_slip) (defBody s_slip) (defScope s_slip) .none kV6 dc6 pm6 an6 cd6 ct6), sl6⟩)
    (c6 : PySem.W.codeIn K cd6 "slip" = true)
    (k6 : PySem.W.keepIn K (.ref f6) = true)
    (a7 : PySem.W.nsIn K mainGlobals "swap" = some (some (.ref f7)))
    (l7 : K.lookup f7 = some ⟨oc7, od7, .func (PySem.W.fnOf "swap" "swap" (defArgs s_swap) (defBody s_swap) (defScope s_swap) .none kV7 dc7 pm7 an7 cd7 ct7), sl7⟩)
    (c7 : PySem.W.codeIn K cd7 "swap" = true)
    (k7 : PySem.W.keepIn K (.ref f7) = true)
    (a8 : PySem.W.nsIn K mainGlobals "_law_taken" = some (some (.ref f8)))
    (l8 : K.lookup f8 = some ⟨oc8, od8, .func (PySem.W.fnOf "_law_taken" "_law_taken" (defArgs s_law_taken) (defBody s_law_taken) (defScope s_law_taken) .none kV8 dc8 pm8 an8 cd8 ct8), sl8⟩)
    (c8 : PySem.W.codeIn K cd8 "_law_taken" = true)
    (k8 : PySem.W.keepIn K (.ref f8) = true)
    (a9 : PySem.W.nsIn K mainGlobals "_law_power" = some (some (.ref f9)))
    (l9 : K.lookup f9 = some ⟨oc9, od9, .func (PySem.W.fnOf "_law_power" "_law_power" (defArgs s_law_power) (defBody s_law_power) (defScope s_law_power) .none kV9 dc9 pm9 an9 cd9 ct9), sl9⟩)
    (c9 : PySem.W.codeIn K cd9 "_law_power" = true)
    (k9 : PySem.W.keepIn K (.ref f9) = true)
    (a10 : PySem.W.nsIn K mainGlobals "law" = some (some (.ref f10)))
    (l10 : K.lookup f10 = some ⟨oc10, od10, .func (PySem.W.fnOf "law" "law" (defArgs s_law) (defBody s_law) (defScope s_law) .none kV10 dc10 pm10 an10 cd10 ct10), sl10⟩)
    (c10 : PySem.W.codeIn K cd10 "law" = true)
    (k10 : PySem.W.keepIn K (.ref f10) = true)
    (v_LEAST_BASE : PySem.W.nsIn K mainGlobals "LEAST_BASE" = some (some (.int (2) tk_LEAST_BASE)))
    (v_MOST_BASE : PySem.W.nsIn K mainGlobals "MOST_BASE" = some (some (.int (16) tk_MOST_BASE)))
    (v_MOST_DIVISOR : PySem.W.nsIn K mainGlobals "MOST_DIVISOR" = some (some (.int (100) tk_MOST_DIVISOR)))
    (v_MOST_LENGTH : PySem.W.nsIn K mainGlobals "MOST_LENGTH" = some (some (.int (40) tk_MOST_LENGTH)))
    (z_isinstance : PySem.W.nsIn K mainGlobals "isinstance" = some none)
    (z_int : PySem.W.nsIn K mainGlobals "int" = some none)
    (z_bool : PySem.W.nsIn K mainGlobals "bool" = some none)
    (z_range : PySem.W.nsIn K mainGlobals "range" = some none)
    (z_len : PySem.W.nsIn K mainGlobals "len" = some none)
    (z_sum : PySem.W.nsIn K mainGlobals "sum" = some none)
    (z_abs : PySem.W.nsIn K mainGlobals "abs" = some none)
    : ∃ fd : FuncData, (∀ (s : Shared) (v : Value), BindsTo s fd ⟨[v], []⟩ [("_law_script", v)]) ∧ ∀ base : Heap, K.In base → base.Ns mainGlobals mg → FnOk l.prog w K mg base CX0 4 fa fd ["_law_script"] (sp_law K) := by
  have e := hfa.symm.trans (PySem.W.mg_of X G a10)
  cases e
  have F0 := fun_mk (st := s_is_from) l0 c0 k0
  have b0 := F0.binds (ps := p_is_from) fun _ _ _ _ _ _ us hl => match us, hl with | [_, _, _], _ => rfl
  have F1 := fun_mk (st := s_need_base) l1 c1 k1
  have b1 := F1.binds (ps := p_need_base) fun _ _ _ _ _ _ us hl => match us, hl with | [_], _ => rfl
  have F2 := fun_mk (st := s_need_divisor) l2 c2 k2
  have b2 := F2.binds (ps := p_need_divisor) fun _ _ _ _ _ _ us hl => match us, hl with | [_, _], _ => rfl
  have F3 := fun_mk (st := s_power) l3 c3 k3
  have b3 := F3.binds (ps := p_power) fun _ _ _ _ _ _ us hl => match us, hl with | [_, _], _ => rfl
  have F4 := fun_mk (st := s_need_length) l4 c4 k4
  have b4 := F4.binds (ps := p_need_length) fun _ _ _ _ _ _ us hl => match us, hl with | [_], _ => rfl
  have F5 := fun_mk (st := s_slip_by) l5 c5 k5
  have b5 := F5.binds (ps := p_slip_by) fun _ _ _ _ _ _ us hl => match us, hl with | [_, _, _, _], _ => rfl
  have F6 := fun_mk (st := s_slip) l6 c6 k6
  have b6 := F6.binds (ps := p_slip) fun _ _ _ _ _ _ us hl => match us, hl with | [_, _, _], _ => rfl
  have F7 := fun_mk (st := s_swap) l7 c7 k7
  have b7 := F7.binds (ps := p_swap) fun _ _ _ _ _ _ us hl => match us, hl with | [_, _, _, _], _ => rfl
  have F8 := fun_mk (st := s_law_taken) l8 c8 k8
  have b8 := F8.binds (ps := p_law_taken) fun _ _ _ _ _ _ us hl => match us, hl with | [_, _], _ => rfl
  have F9 := fun_mk (st := s_law_power) l9 c9 k9
  have b9 := F9.binds (ps := p_law_power) fun _ _ _ _ _ _ us hl => match us, hl with | [_, _], _ => rfl
  have F10 := fun_mk (st := s_law) l10 c10 k10
  have b10 := F10.binds (ps := p_law) fun _ _ _ _ _ _ us hl => match us, hl with | [_], _ => rfl
  have T : Txt K mg ⟨f0, _, f1, _, f2, _, f3, _, f4, _, f5, _, f6, _, f7, _, f8, _, f9, _, fa, _⟩ :=
    { F_is_from := F0,
      b_is_from := b0,
      g_is_from := PySem.W.mg_of X G a0,
      F_need_base := F1,
      b_need_base := b1,
      g_need_base := PySem.W.mg_of X G a1,
      F_need_divisor := F2,
      b_need_divisor := b2,
      g_need_divisor := PySem.W.mg_of X G a2,
      F_power := F3,
      b_power := b3,
      g_power := PySem.W.mg_of X G a3,
      F_need_length := F4,
      b_need_length := b4,
      g_need_length := PySem.W.mg_of X G a4,
      F_slip_by := F5,
      b_slip_by := b5,
      g_slip_by := PySem.W.mg_of X G a5,
      F_slip := F6,
      b_slip := b6,
      g_slip := PySem.W.mg_of X G a6,
      F_swap := F7,
      b_swap := b7,
      g_swap := PySem.W.mg_of X G a7,
      F_law_taken := F8,
      b_law_taken := b8,
      g_law_taken := PySem.W.mg_of X G a8,
      F_law_power := F9,
      b_law_power := b9,
      g_law_power := PySem.W.mg_of X G a9,
      F_law := F10,
      b_law := b10,
      g_law := PySem.W.mg_of X G a10,
      v_LEAST_BASE := ⟨_, PySem.W.mg_of X G v_LEAST_BASE⟩,
      v_MOST_BASE := ⟨_, PySem.W.mg_of X G v_MOST_BASE⟩,
      v_MOST_DIVISOR := ⟨_, PySem.W.mg_of X G v_MOST_DIVISOR⟩,
      v_MOST_LENGTH := ⟨_, PySem.W.mg_of X G v_MOST_LENGTH⟩,
      n_isinstance := PySem.W.mg_none_of X G z_isinstance,
      n_int := PySem.W.mg_none_of X G z_int,
      n_bool := PySem.W.mg_none_of X G z_bool,
      n_range := PySem.W.mg_none_of X G z_range,
      n_len := PySem.W.mg_none_of X G z_len,
      n_sum := PySem.W.mg_none_of X G z_sum,
      n_abs := PySem.W.mg_none_of X G z_abs }
  exact ⟨_, fun s v => .of_eq rfl, fun base _ _ => ok_law T⟩
theorem walk {l : PySem.W.OpenLaw} {q : Program} {loose : List Str} {XP : (Str → Option Value) → Heap → Prop} {YP : World → Heap → Prop} {d : DefRec} {K : Params → Frag} (hn : l.most = some 63) (hdf : d.params.defaults = [])
    (hY : ∀ (w : World) (h : Heap), YP w h → (K w.params).In h)
    (F : ∀ (w : World) (mg : Str → Option Value) (fa : Addr) (h : Heap), (K w.params).In h → h.Ns mainGlobals mg → mg d.name = some (.ref fa) →
      ∃ fd : FuncData, (∀ (s : Shared) (u : Value), BindsTo s fd ⟨[u], []⟩ [("_law_script", u)]) ∧ ∀ base : Heap, (K w.params).In base → base.Ns mainGlobals mg → FnOk l.prog w (K w.params) mg base CX0 4 fa fd ["_law_script"] (sp_law (K w.params))) :
    PySem.W.WalkO q loose XP YP l.row.toRowW d [] (fun f vs => PySem.call f vs) :=
  L2.walk_of (n := 63) (k := 4) (x := "_law_script") (CX := fun _ => CX0) (sp := fun w => sp_law (K w.params)) hn (by decide) hdf ⟨rfl, by decide, by decide⟩ hY F (fun _ _ a ns hl _ hS => ⟨a, ns, rfl, hS, hl, fun _ => rfl⟩) fun _ _ _ _ _ z => z
end Toy

open PySem PySem.W PyProof.Rows
set_option maxRecDepth 100000 in
set_option maxHeartbeats 0 in
theorem PySem.Challenge.cw_resttricks_k28_whole_wrong_numbers_holds : PySem.Challenge.rw_resttricks_k28_whole_wrong_numbers.Holds := by
  w_on; o_law; k_head; (case hw => w_witness2)
  k_fill
  refine Toy.walk (l := PySem.Challenge.rw_resttricks_k28_whole_wrong_numbers) rfl rfl (fun w h Y => PySem.W.kIn_of Y) ?F
  case F =>
    intro w mg fa h KX G hmg
    refine' Toy.all_mk KX G hmg ?a0 ?l0 ?c0 ?k0 ?a1 ?l1 ?c1 ?k1 ?a2 ?l2 ?c2 ?k2 ?a3 ?l3 ?c3 ?k3 ?a4 ?l4 ?c4 ?k4 ?a5 ?l5 ?c5 ?k5 ?a6 ?l6 ?c6 ?k6 ?a7 ?l7 ?c7 ?k7 ?a8 ?l8 ?c8 ?k8 ?a9 ?l9 ?c9 ?k9 ?a10 ?l10 ?c10 ?k10 ?v_LEAST_BASE ?v_MOST_BASE ?v_MOST_DIVISOR ?v_MOST_LENGTH ?z_isinstance ?z_int ?z_bool ?z_range ?z_len ?z_sum ?z_abs
    (case a0 => k_is)
    (case l0 => k_is)
    (case c0 => k_is)
    (case k0 => k_is)
    (case a1 => k_is)
    (case l1 => k_is)
    (case c1 => k_is)
    (case k1 => k_is)
    (case a2 => k_is)
    (case l2 => k_is)
    (case c2 => k_is)
    (case k2 => k_is)
    (case a3 => k_is)
    (case l3 => k_is)
    (case c3 => k_is)
    (case k3 => k_is)
    (case a4 => k_is)
    (case l4 => k_is)
    (case c4 => k_is)
    (case k4 => k_is)
    (case a5 => k_is)
    (case l5 => k_is)
    (case c5 => k_is)
    (case k5 => k_is)
    (case a6 => k_is)
    (case l6 => k_is)
    (case c6 => k_is)
    (case k6 => k_is)
    (case a7 => k_is)
    (case l7 => k_is)
    (case c7 => k_is)
    (case k7 => k_is)
    (case a8 => k_is)
    (case l8 => k_is)
    (case c8 => k_is)
    (case k8 => k_is)
    (case a9 => k_is)
    (case l9 => k_is)
    (case c9 => k_is)
    (case k9 => k_is)
    (case a10 => k_is)
    (case l10 => k_is)
    (case c10 => k_is)
    (case k10 => k_is)
    (case v_LEAST_BASE => k_is)
    (case v_MOST_BASE => k_is)
    (case v_MOST_DIVISOR => k_is)
    (case v_MOST_LENGTH => k_is)
    (case z_isinstance => k_is)
    (case z_int => k_is)
    (case z_bool => k_is)
    (case z_range => k_is)
    (case z_len => k_is)
    (case z_sum => k_is)
    (case z_abs => k_is)
