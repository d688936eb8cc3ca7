import PyProof.Rows.All
import Wide.All
import OpenK.AllK
import Wide.FinOn
import KE.KStateDown
import HandS.ForMost
import HandS.ForExc
import HandS.Defaults
import HandS.Wide
import HandS.WideMore
import HandS.SetKeys
import HandS.IsInst
import HandS.TupAny
import HandS.Flow
import HandS.Style
import HandS.NoneIn
import HandS.Evl
import HandS.HeadHook1
import HandS.HeadHook2
import HandS.More
import HandS.Conv
import HandS.SortRule
import HandS.Flt
import HandS.Walk
import HandS.Head0
import HandS.Head1
import HandS.Head2
import HandS.HeadEnd
import PySem.Challenge.RW_inningsbook_k74_whole_games_any_way_abou
set_option Elab.async false
set_option linter.all false
set_option maxRecDepth 100000
set_option maxHeartbeats 0
namespace Inn
/-! Lib0: names for the relations of operators and calls; a few rules that the layer lacks. -/
open PySem PySem.Spec PyProof.Rows L2
/-! ### names of relations -/
abbrev VR := List V → Hp → VK → Prop
def nAdd : R2 := rI0 fun i j => .int (i + j)
def nSub : R2 := rI0 fun i j => .int (i - j)
def nMul : R2 := rI CMul fun i j => .int (i * j)
def nDiv : R2 := rI CDivW fun i j => .int (i / j)
def nMod : R2 := rI (fun _ j => 0 < j) fun i j => .int (i % j)
def nPow : R2 := rI CPow fun i j => .int (i ^ j.toNat)
def nLt : R2 := rI0 fun i j => .bl (decide (i < j))
def nLe : R2 := rI0 fun i j => .bl (decide (i ≤ j))
def nGt : R2 := rI0 fun i j => .bl (decide (j < i))
def nGe : R2 := rI0 fun i j => .bl (decide (j ≤ i))
def sAdd : R2 := fun x y H Q => ∃ i j, x = .str i ∧ y = .str j ∧ i.length + j.length ≤ sizeLine ∧ Q (.str (i ++ j)) H
def sMul : R2 := fun x y H Q => ∃ i j, x = .str i ∧ y = .int j ∧ MulOk i j ∧ Q (.str (Txt.mul i j)) H
def sLt : R2 := fun x y H Q => ∃ i j, x = .str i ∧ y = .str j ∧ Q (.bl (decide (i.cps.toList < j.cps.toList))) H
def rIsNo : R2 := fun x y H Q => y = .non ∧ Q (.bl (decide (x = .non))) H
def rNotNo : R2 := fun x y H Q => y = .non ∧ Q (.bl (!decide (x = .non))) H
def cLenQ (K : PySem.W.Frag) : VR := fun xs H Q => ∃ p ys, xs = [.ref p] ∧ (SqL K H p ys ∨ SqT K H p ys) ∧ Q (.int (ys.length : Nat)) H
def cLenS : VR := fun xs H Q => ∃ z : Str, xs = [.str z] ∧ z.length ≤ sizeLine ∧ Q (.int (z.length : Nat)) H
def cList (K : PySem.W.Frag) : VR := fun xs H Q => ∃ p ys, xs = [.ref p] ∧ (SqL K H p ys ∨ SqT K H p ys) ∧ ∀ l, H l = none → Q (.ref l) (upd H l (.lst ys))
def cAbs : VR := fun xs H Q => ∃ i, xs = [.int i] ∧ Q (.int (if i < 0 then -i else i)) H
def cInt : VR := fun xs H Q => (∃ i, xs = [.int i] ∧ Q (.int i) H) ∨ ∃ k, xs = [.bl k] ∧ Q (.int (if k then 1 else 0)) H
section
variable {X : Cx}
theorem o_add : OpR X (binaryOp .Add) nAdd := op_add
theorem o_sub : OpR X (binaryOp .Sub) nSub := op_sub
theorem o_mul : OpR X (binaryOp .Mult) nMul := op_mul
theorem o_div : OpR X (binaryOp .FloorDiv) nDiv := op_fdivW
theorem o_mod : OpR X (binaryOp .Mod) nMod := op_mod
theorem o_pow : OpR X (binaryOp .Pow) nPow := op_pow
theorem o_lt : OpR X (compareOp .Lt) nLt := op_lt
theorem o_le : OpR X (compareOp .LtE) nLe := op_le
theorem o_gt : OpR X (compareOp .Gt) nGt := op_gt
theorem o_ge : OpR X (compareOp .GtE) nGe := op_ge
theorem o_addS : OpR X (binaryOp .Add) sAdd := op_add_str
theorem o_mulS : OpR X (binaryOp .Mult) sMul := by
  intro pins s σ H x y v u Q I rx ry h
  obtain ⟨i, j, rfl, rfl, hz, q⟩ := h
  obtain ⟨t, rfl⟩ := rx
  obtain ⟨t', rfl⟩ := ry
  exact SB.mul hz fun t' k => ⟨.str (Txt.mul i j), H, I.tok _, ⟨_, rfl⟩, q⟩
theorem o_ltS : OpR X (compareOp .Lt) sLt := op_lt_str
theorem o_isN : OpR X (compareOp .Is) rIsNo := op_isN
theorem o_notN : OpR X (compareOp .IsNot) rNotNo := op_notN
theorem c_lenQ : CallR X (.builtin "len") (cLenQ X.K) := call_len_seq
theorem c_list : CallR X (.type "list") (cList X.K) := call_list_of
theorem c_abs : CallR X (.builtin "abs") cAbs := call_abs
theorem c_int : CallR X (.type "int") cInt := call_int1
end
/-! ### what a caller has of a def, a method, a class -/
section
variable (P : Program) (w : World) (K : PySem.W.Frag) (mg : Str → Option Value) (base : Heap) (CX : CXT) (k : Nat)
/-- a def of the module: called by its name x, parameters ps, it keeps sp -/
structure Fn (x : Str) (ps : List Str) (sp : Sp) : Prop where
  ex : ∃ (f : Addr) (fd : FuncData), mg x = some (.ref f) ∧ PySem.W.keepIn K (.ref f) = true ∧ Binds K fd ps [] ∧ FnOk P w K mg base CX k f fd ps sp
/-- a method m of the class at C -/
structure Me (C : Addr) (m : Str) (ps : List Str) (sp : Sp) : Prop where
  ex : ∃ (f : Addr) (fd : FuncData), Cls K C ∧ Meth K C m f ∧ Binds K fd ps [] ∧ FnOk P w K mg base CX k f fd ps sp
/-- the class x, at C, with its __init__ -/
structure Ini (x : Str) (C : Addr) (ps : List Str) (sp : Sp) : Prop where
  ex : ∃ (f : Addr) (fd : FuncData), mg x = some (.ref C) ∧ Mk K C f ∧ Binds K fd ps [] ∧ FnOk P w K mg base CX k f fd ps sp
end
section
variable {X : Cx} {CX : CXT} {k : Nat} {C : Addr} {ps : List Str} {sp : Sp} {E : XK} {x m : Str} {p pos apos : Pos} {e o : Expr} {es : List Expr} {ta : TE} {t : TA}
theorem pe_fn (F : Fn X.prog X.w X.K X.mg X.base CX k x ps sp) (hr : Room k X.A) (hx : Passes CX X E) (ha : PA X (e :: es) t) (hg : Gl X x := by rfl)
    (hdb : (x == ("__debug__" : Str)) = false := by decide) (he : starEach (e :: es) X.env = (false, eval e X.env) :: starEach es X.env := by rfl)
    (hpl : (backTo pos (starEach es X.env)).any (·.1) = false := by rfl) : PE X (.Call (.Name x p) (e :: es) [] pos) (tCall sp [] E t) :=
  let ⟨_, _, hm, hk, hb, hf⟩ := F.ex
  pe_call hf hr hg hm hk hb .nil hx ha hdb he hpl
theorem pe_fn0 (F : Fn X.prog X.w X.K X.mg X.base CX k x ps sp) (hr : Room k X.A) (hx : Passes CX X E) (hg : Gl X x := by rfl)
    (hdb : (x == ("__debug__" : Str)) = false := by decide) : PE X (.Call (.Name x p) [] [] pos) (tCall sp [] E tNil) :=
  let ⟨_, _, hm, hk, hb, hf⟩ := F.ex
  pe_call0 hf hr hg hm hk hb .nil hx hdb
theorem pe_mk (F : Ini X.prog X.w X.K X.mg X.base CX k x C ps sp) (hr : Room (k + 1) X.A) (hx : Passes CX X E) (ha : PA X (e :: es) t) (hg : Gl X x := by rfl)
    (hdb : (x == ("__debug__" : Str)) = false := by decide) (he : starEach (e :: es) X.env = (false, eval e X.env) :: starEach es X.env := by rfl)
    (hpl : (backTo pos (starEach es X.env)).any (·.1) = false := by rfl) : PE X (.Call (.Name x p) (e :: es) [] pos) (tMake C sp [] E t) :=
  let ⟨_, _, hm, hk, hb, hf⟩ := F.ex
  pe_make hk hf hr hg hm hb .nil hx ha hdb he hpl
theorem pe_mk0 (F : Ini X.prog X.w X.K X.mg X.base CX k x C ps sp) (hr : Room (k + 1) X.A) (hx : Passes CX X E) (hg : Gl X x := by rfl)
    (hdb : (x == ("__debug__" : Str)) = false := by decide) : PE X (.Call (.Name x p) [] [] pos) (tMake C sp [] E tNil) :=
  let ⟨_, _, hm, hk, hb, hf⟩ := F.ex
  pe_make0 hk hf hr hg hm hb .nil hx hdb
theorem pe_me {pl : Sem Bool} (F : Me X.prog X.w X.K X.mg X.base CX k C m ps sp) (hr : Room k X.A) (hx : Passes CX X E) (he : PE X o ta) (ha : PA X (e :: es) t)
    (hst : starEach (e :: es) X.env = (false, eval e X.env) :: starEach es X.env := by rfl) (hpl : (backTo pos (starEach es X.env)).any (·.1) = false := by rfl)
    (ht : eval (.Call (.Attribute o m apos) (e :: es) [] pos) X.env = (do
      let ov ← eval o X.env
      standAt apos.atName
      let (g, first) ← holding [ov] (getMethod ov m pl)
      callWith pos g first (backTo pos (starEach (e :: es) X.env)) (backToKw pos (keywordEach [] X.env))) := by rfl) :
    PE X (.Call (.Attribute o m apos) (e :: es) [] pos) (tMeth C m sp [] E ta t) :=
  let ⟨_, _, hc, hm, hb, hf⟩ := F.ex
  pe_meth he hc hm hf hr hb .nil hx ha hst hpl ht
theorem pe_me0 {pl : Sem Bool} (F : Me X.prog X.w X.K X.mg X.base CX k C m ps sp) (hr : Room k X.A) (hx : Passes CX X E) (he : PE X o ta)
    (ht : eval (.Call (.Attribute o m apos) [] [] pos) X.env = (do
      let ov ← eval o X.env
      standAt apos.atName
      let (g, first) ← holding [ov] (getMethod ov m pl)
      callWith pos g first (backTo pos (starEach [] X.env)) (backToKw pos (keywordEach [] X.env))) := by rfl) :
    PE X (.Call (.Attribute o m apos) [] [] pos) (tMeth C m sp [] E ta tNil) :=
  let ⟨_, _, hc, hm, hb, hf⟩ := F.ex
  pe_meth0 he hc hm hf hr hb .nil hx ht
end
/-! ### xs[i] op= e -/
def gIxL (K : PySem.W.Frag) : V → V → Hp → VK → Prop := fun x y H Q => ∃ (p : Addr) (xs : List V) (j : Nat) (v : V), x = .ref p ∧ y = .int (j : Int) ∧ SqL K H p xs ∧ xs[j]? = some v ∧ Q v H
theorem get_list {X : Cx} : PGet X (gIxL X.K) := by
  intro pins s σ H o i ov iv Q I ro ri h
  obtain ⟨p, xs, j, v, rfl, rfl, hq, hj, q⟩ := h
  cases ro
  obtain ⟨t, rfl⟩ := ri
  obtain ⟨its, r, pl, hz⟩ := I.list hq
  obtain ⟨u, eu, ru⟩ := r.get hj
  have hb := (List.getElem?_eq_some_iff.mp hj).1
  have hn := line63
  exact wpAny_getItem_list pl.isList (by omega) (by omega) (by simpa using eu) ⟨v, H, I, ru, q⟩
open PySem PySem.Spec PyProof.Rows L2
/-! ### o[a:] = e, a list into a list's tail -/
open HT in
theorem set_tail {prog : Program} {w : World} {A : Around} {E : Value → Shared → Prop} {s : Shared} {l b sl : Addr} {items new : Array Value} {n n2 : Nat} {vl : Value} {a : Nat} {Q : Unit → Shared → Prop}
    (e : s.heap.get? l = some { cls := .type "list", data := .seq items n }) (e2 : s.heap.get? b = some { cls := .type "list", data := .seq new n2 }) (hne : l ≠ b)
    (hs : s.heap.IsSliceOf sl vl .none .none) (pl : IsPart vl (some (a : Int))) (hac : a ≤ items.size)
    (hsz : items.size + new.size ≤ sizeLine) (h : Q () { s with heap := s.heap.update l (Obj.mapSeq fun xs => xs.extract 0 a ++ new ++ xs.extract items.size xs.size) }) :
    wpAny (model prog w) A (setItem (.ref l) (.ref sl) (.ref b)) Q E s := by
  have hl : s.heap.IsList l items := PySem.IsL.isList e
  have hb : s.heap.IsList b new := PySem.IsL.isList e2
  obtain ⟨os, hos, hcs, hds⟩ := id hs
  have hTs : s.TypeIs (.ref sl) "slice" := ⟨os, hos, hcs⟩
  have notNil : ¬ ((rawPart none == rawInt 0) = true) := Bool.false_ne_true
  have other : Builtin.List.listSameRef (.ref l) (.ref b) = false := beq_eq_false_iff_ne.mpr hne
  have upTo : (max (a : Int) (items.size : Int)).toNat = items.size := by omega
  have fits : ((fun xs : Array Value => xs.extract 0 a ++ new ++ xs.extract items.size xs.size) items).size ≤ sizeLine + 1 := by
    simp only [Array.size_append, Array.size_extract]
    omega
  have bnds : sliceBounds (some (a : Int)) none none items.size = ((a : Int), (items.size : Int), 1) := by
    simp only [sliceBounds, Option.getD_none]
    have h1 : ¬ ((a : Int) < 0) := by omega
    simp only [h1, if_false, show (1 : Int) > 0 by decide, if_true]
    congr 1
    omega
  unfold setItem
  try with_reducible refine wpAny_holding ?_
  first | refine wpAny_bind (wpAny_pure ?_) | skip
  refine wpAny_bind (wpAny_sequenceKey hl.typeIs (by decide) ?_)
  refine wpAny_bind (wpAny_callSpecial?_slot (name := Str.ofString "__setitem__") hl.typeIs slot_list_setitem (wpAny_call_entry slot_list_setitem hl.typeIs entry_list_setitem ?_ (args_list_setitem _ _ _)))
  show wpAny _ _ (Builtin.List.listSubscript? (.ref sl) >>= _) _ _ s
  refine wpAny_bind ?_
  unfold Builtin.List.listSubscript?
  refine wpAny_bind (wpAny_specialOf hTs slice_no_index ?_)
  simp only [Option.isNone_none, if_true]
  refine wpAny_pure ?_
  show wpAny _ _ (typeOf (.ref sl) >>= _) _ _ s
  refine wpAny_bind (wpAny_typeOf hTs ?_)
  first
    | rw [if_neg (by decide)]
    | refine PySem.W.KFB.if_not (by decide) ?_
  rw [listSliceParts_eq]
  refine wpAny_bind (wpAny_bind (wpAny_field hos hds (x := .none) rfl (wpAny_bind (wpAny_listPart .none ?_))))
  rw [if_neg notNil]
  refine wpAny_bind (wpAny_field hos hds (x := vl) rfl (wpAny_bind (wpAny_listPart pl ?_)))
  refine wpAny_bind (wpAny_field hos hds (x := .none) rfl (wpAny_bind (wpAny_listPart .none (wpAny_pure ?_))))
  first
    | simp only [other, Bool.false_eq_true, if_false]
    | refine PySem.W.KFB.if_not other ?_
    | (dsimp only; rw [if_neg (by rw [other]; exact Bool.false_ne_true)])
  refine wpAny_bind (m := Builtin.List.listAllItems (.ref b) "must assign iterable to extended slice") ?_
  unfold Builtin.List.listAllItems
  refine wpAny_bind (wpAny_typeOf hb.typeIs ?_)
  first
    | refine PySem.W.KFB.if_so (by decide) ?_
    | rw [if_pos (by decide)]
  unfold Builtin.List.listItems
  refine wpAny_bind (wpAny_seqItems e2 rfl (wpAny_pure ?_))
  refine wpAny_bind (wpAny_bind (wpAny_seqItems e rfl (wpAny_pure ?_)))
  refine wpAny_bind (wpAny_of_eq ((sliceIndices_raw (some (a : Int)) none none items.size (by simp)).trans (congrArg (pure : Int × Int × Int → Sem (Int × Int × Int)) bnds)) ?_)
  show wpAny _ _ (if ((1 : Int) == 1) = true then _ else _) _ _ s
  rw [if_pos (by decide)]
  refine wpAny_bind (wpAny_rule ?_)
  first
    | simp only [notLongL hsz, Bool.false_eq_true, if_false]
    | refine PySem.W.KFB.if_not (notLongL hsz) ?_
  first | refine wpAny_bind (wpAny_pure ?_) | skip
  show wpAny _ _ (updateSeq l (fun xs => xs.extract 0 ((a : Int)).toNat ++ new ++ xs.extract (max (a : Int) (items.size : Int)).toNat xs.size) >>= _) _ _ s
  rw [upTo, Int.toNat_natCast]
  refine wpAny_bind (wpAny_updateSeq (hz := Nat.le_trans (Nat.le_add_right _ _) hsz) (_hz' := fits) e rfl ?_)
  refine wpAny_bind (wpAny_letGo ?_)
  first
    | exact wpAny_bind (wpAny_pure (wpAny_pure ⟨.none, rfl, wpAny_pure h⟩))
    | exact wpAny_pure ⟨.none, rfl, wpAny_pure h⟩
/-- o[a:] = .., 0 ≤ a within the list -/
def gTail (to : TE) (tl : TO) : TG := fun v σ H Q => to σ H fun o H1 => tl σ H1 fun lo H2 => ∃ (l b : Addr) (xs ys : List V) (a : Nat), o = .ref l ∧ v = .ref b ∧ lo = some (a : Int) ∧ H2 l = some (.lst xs) ∧ H2 b = some (.lst ys) ∧ l ≠ b ∧
  a ≤ xs.length ∧ xs.length + ys.length ≤ sizeLine ∧ Q σ (upd H2 l (.lst (xs.take a ++ ys)))
theorem pg_tail {X : Cx} {o : Expr} {lo : Option Expr} {to : TE} {tl : TO} {pos p2 : Pos} (ho : PE X o to) (hl : PO X lo tl)
    (ha : ∀ v, assign (.Subscript o (.Slice lo none none p2) pos) X.env v = (do
      let ov ← holding [v] (eval o X.env)
      let iv ← holding [v, ov] (eval (.Slice lo none none p2) X.env)
      standAt pos
      holding [v, ov, iv] (setItem ov iv v)
      release [iv, v, ov] []) := by intro _; rfl) : PG X (.Subscript o (.Slice lo none none p2) pos) (gTail to tl) := by
  refine ⟨fun pins s σ H v u Q I r h => ?_⟩
  rw [ha]
  refine wpAny_bind (wpAny_holding (thn (ho.run pins s σ H _ I h) fun ov s1 ⟨x, H1, I1, r1, q1⟩ => ?_))
  refine wpAny_bind (wpAny_holding ?_)
  refine wpAny_Slice (thn (hl.run pins s1 σ H1 _ I1 q1) fun vl s2 ⟨lo', H2, I2, pl, q2⟩ => ?_)
  rw [evalPart_none]
  refine wpAny_pure (wpAny_pure ?_)
  obtain ⟨l, b, xs, ys, a, rfl, rfl, rfl, hl2, hb2, hne, hac, hz, q⟩ := q2
  cases r1
  cases r
  have I4 : Inv X pins σ H2 { s2 with heap := s2.heap.push { cls := .type "slice", data := .fields #[vl, .none, .none] } } := I2.kept (t' := s2.toks) fun b' ob q' => Heap.get?_push_of_some _ q'
  refine wpAny_bind (wpAny_standAt (wpAny_bind (wpAny_holding ?_)))
  obtain ⟨z, its, n, rv, hln, e⟩ := I4.lstM hl2
  obtain ⟨z2, its2, n2, rv2, hln2, e2⟩ := I4.lstM hb2
  refine set_tail (vl := vl) (a := a) e e2 hne (Heap.IsSliceOf.new ..) pl (by rw [List.size_toArray]; omega) (by rw [List.size_toArray, List.size_toArray]; omega) ?_
  refine wpAny_release ⟨σ, _, I4.lset (its' := its.take a ++ its2) (t' := s2.toks) hl2 e ?_ (Vals.append (rv.take _) rv2) ?_, q⟩
  · show its.toArray.extract 0 a ++ its2.toArray ++ its.toArray.extract its.toArray.size its.toArray.size = _
    have k := L2.splice_eq its its2 a its.toArray.size
    rw [k]
    congr 1
    simp
  · rw [List.length_append, List.length_take]
    omega
/-! Lib1: one step of a reading, as a rule backwards; heaps as letters, each with what became of the one ahead of it. -/
open PySem PySem.Spec PyProof.Rows L2
open Evl (tCut)
/-! ### heaps -/
/-- all but p is as it was -/
def But (p : Addr) (H H' : Hp) : Prop := ∀ b o, b ≠ p → H b = some o → H' b = some o
theorem But.upd {p : Addr} {H : Hp} {o : HO} : But p H (upd H p o) := fun b u hb e => by rw [upd_ne hb]; exact e
theorem Same.new {H : Hp} {p : Addr} {o : HO} (h : H p = none) : Same H (upd H p o) := fun b u e => by rw [upd_ne (ne_of_none e h)]; exact e
/-- an object that was not there ahead may change -/
theorem Same.but {H H1 H2 : Hp} {p : Addr} (s : Same H H1) (h : H p = none) (u : But p H1 H2) : Same H H2 := fun b o e => u b o (ne_of_none e h) (s b o e)
theorem Same.sqT {K : PySem.W.Frag} {H H' : Hp} {a : Addr} {xs : List V} (e : Same H H') (h : SqT K H a xs) : SqT K H' a xs := by
  rcases h with (h | ⟨o, h⟩) | h
  · exact .inl (.inl (e _ _ h))
  · exact .inl (.inr ⟨o, e _ _ h⟩)
  · exact .inr h
theorem Same.at {H H' : Hp} (e : Same H H') {l : Addr} {o : HO} (h : H l = some o) : H' l = some o := e l o h
theorem Same.none {H H' : Hp} (e : Same H H') {l : Addr} (h : H' l = none) : H l = none := e.free h
theorem But.sq {K : PySem.W.Frag} {H H' : Hp} {p a : Addr} {xs : List V} (u : But p H H') (h : H a = some (.lst xs)) (n : a ≠ p) : SqL K H' a xs := SqL.of (u a _ n h)
theorem But.none {p l : Addr} {H H' : Hp} {o : HO} (u : But p H H') (e : H' p = some o) (h : H' l = none) : H l = none := by
  cases q : H l with
  | none => rfl
  | some w =>
    by_cases c : l = p
    · rw [c, e] at h; cases h
    · rw [u l w c q] at h; cases h
/-- a tuple stands while a list, an instance, a dict changes -/
theorem But.sqT {K : PySem.W.Frag} {H H' : Hp} {p a : Addr} {xs ys : List V} (u : But p H H') (h : SqT K H a xs) (e : H p = some (.lst ys)) : SqT K H' a xs := by
  rcases h with (h | ⟨o, h⟩) | h
  · exact .inl (.inl (u _ _ (ne_of h e (by intro z; cases z)) h))
  · exact .inl (.inr ⟨o, u _ _ (ne_of h e (by intro z; cases z)) h⟩)
  · exact .inr h
/-- all but what the list names is as it was -/
def Kept (l : List Addr) (H H' : Hp) : Prop := ∀ b o, ¬ b ∈ l → H b = some o → H' b = some o
theorem Kept.refl (l : List Addr) (H : Hp) : Kept l H H := fun _ _ _ e => e
theorem Kept.same {l : List Addr} {H H1 H2 : Hp} (s : Same H H1) (k : Kept l H1 H2) : Kept l H H2 := fun b o n e => k b o n (s b o e)
theorem Kept.but {l : List Addr} {p : Addr} {H H1 H2 : Hp} (u : But p H H1) (m : p ∈ l) (k : Kept l H1 H2) : Kept l H H2 := fun b o n e => k b o n (u b o (fun z => n (z ▸ m)) e)
theorem Kept.step {l l' : List Addr} {H H1 H2 : Hp} (u : Kept l' H H1) (m : ∀ a ∈ l', a ∈ l) (k : Kept l H1 H2) : Kept l H H2 := fun b o n e => k b o n (u b o (fun z => n (m b z)) e)
theorem Kept.toBut {p : Addr} {H H' : Hp} (k : Kept [p] H H') : But p H H' := fun b o n e => k b o (by simpa using n) e
theorem Kept.toSame {H H' : Hp} (k : Kept [] H H') : Same H H' := fun b o e => k b o (by simp) e
/-- with what the list names fresh at H0 -/
theorem Kept.fresh {l : List Addr} {H0 H H' : Hp} (k : Kept l H H') (s : Same H0 H) (n : ∀ a ∈ l, H0 a = none) : Same H0 H' := fun b o e => k b o (fun m => by rw [n b m] at e; cases e) (s b o e)
theorem sz {n : Nat} (h : n ≤ 100000) : n ≤ sizeLine := Nat.le_trans h (by decide)
theorem szl {n : Nat} (h : n < 100000) : n < sizeLine := Nat.lt_of_lt_of_le h (by decide)
section
variable {K : PySem.W.Frag} {σ : L2.St} {H : Hp} {Q : VK} {QT : Bool → Hp → Prop} {QA : List V → Hp → Prop} {v x y z : V} {ta tb te tc : TE} {tt tu : TT} {t u : TS} {nx bk ct : L2.St → Hp → Prop} {rt : VK} {g : TG} {r r' : R2}
/-! ### statements -/
theorem x_seq (h : t ⟨u ⟨nx, rt, bk, ct⟩, rt, bk, ct⟩ σ H) : tSeq t u ⟨nx, rt, bk, ct⟩ σ H := h
/-- two ways that meet: what stands between -/
theorem x_cut (M : L2.St → Hp → Prop) (h : t ⟨M, rt, bk, ct⟩ σ H) (k : ∀ σ' H', M σ' H' → u ⟨nx, rt, bk, ct⟩ σ' H') : tCut t u ⟨nx, rt, bk, ct⟩ σ H := ⟨M, h, k⟩
theorem x_nocut (h : t ⟨u ⟨nx, rt, bk, ct⟩, rt, bk, ct⟩ σ H) : tCut t u ⟨nx, rt, bk, ct⟩ σ H := ⟨_, h, fun _ _ q => q⟩
theorem x_asg (h : te σ H fun x H1 => g x σ H1 nx) : tAsg te g ⟨nx, rt, bk, ct⟩ σ H := h
theorem x_ret (h : te σ H rt) : tRet te ⟨nx, rt, bk, ct⟩ σ H := h
theorem x_retN (h : rt .non H) : tRetN ⟨nx, rt, bk, ct⟩ σ H := h
theorem x_next (h : nx σ H) : tNext ⟨nx, rt, bk, ct⟩ σ H := h
theorem x_brk (h : bk σ H) : tBreak ⟨nx, rt, bk, ct⟩ σ H := h
theorem x_cont (h : ct σ H) : tCont ⟨nx, rt, bk, ct⟩ σ H := h
theorem x_drop (h : te σ H fun _ H1 => nx σ H1) : tDrop te ⟨nx, rt, bk, ct⟩ σ H := h
theorem x_if (h : tt σ H fun b H1 => if b = true then t ⟨nx, rt, bk, ct⟩ σ H1 else u ⟨nx, rt, bk, ct⟩ σ H1) : tIfS tt t u ⟨nx, rt, bk, ct⟩ σ H := h
def kPar (i j : Nat) (nx : L2.St → Hp → Prop) (σ : L2.St) (vs : List V) (H : Hp) : Prop := ∃ v w, vs = [v, w] ∧ nx ((σ.set i (some v)).set j (some w)) H
theorem x_par {i j : Nat} {a : TA} (h : a σ H fun vs H1 => kPar i j nx σ vs H1) : tPar i j a ⟨nx, rt, bk, ct⟩ σ H := h
theorem x_kPar {i j : Nat} {v w : V} {σ' : L2.St} (e : (σ.set i (some v)).set j (some w) = σ') (h : nx σ' H) : kPar i j nx σ [v, w] H := ⟨v, w, rfl, by rw [e]; exact h⟩
/-! ### branches -/
theorem x_dec {p : Prop} [Decidable p] {A B : Prop} (h1 : p → A) (h2 : ¬ p → B) : if decide p = true then A else B := by
  by_cases h : p
  · rw [decide_eq_true h, if_pos rfl]; exact h1 h
  · rw [decide_eq_false h, if_neg Bool.false_ne_true]; exact h2 h
theorem x_ndec {p : Prop} [Decidable p] {A B : Prop} (h1 : ¬ p → A) (h2 : p → B) : if (!decide p) = true then A else B := by
  by_cases h : p
  · rw [decide_eq_true h]; exact iteF (h2 h)
  · rw [decide_eq_false h]; exact iteT (h1 h)
theorem x_yes {p : Prop} [Decidable p] {A B : Prop} (h : p) (h1 : A) : if decide p = true then A else B := by rw [decide_eq_true h, if_pos rfl]; exact h1
theorem x_no {p : Prop} [Decidable p] {A B : Prop} (h : ¬ p) (h1 : B) : if decide p = true then A else B := by rw [decide_eq_false h, if_neg Bool.false_ne_true]; exact h1
theorem x_nyes {p : Prop} [Decidable p] {A B : Prop} (h : ¬ p) (h1 : A) : if (!decide p) = true then A else B := by rw [decide_eq_false h]; exact iteT h1
theorem x_nno {p : Prop} [Decidable p] {A B : Prop} (h : p) (h1 : B) : if (!decide p) = true then A else B := by rw [decide_eq_true h]; exact iteF h1
theorem x_bool {b : Bool} {A B : Prop} (h1 : b = true → A) (h2 : b = false → B) : if b = true then A else B := by
  cases b with
  | true => exact iteT (h1 rfl)
  | false => exact iteF (h2 rfl)
theorem x_nbool {b : Bool} {A B : Prop} (h1 : b = false → A) (h2 : b = true → B) : if (!b) = true then A else B := by
  cases b with
  | true => exact iteF (h2 rfl)
  | false => exact iteT (h1 rfl)
/-! ### tests -/
def kBl (QT : Bool → Hp → Prop) (x : V) (H : Hp) : Prop := ∃ k, x = .bl k ∧ QT k H
theorem x_bl {b : Bool} (h : QT b H) : kBl QT (.bl b) H := ⟨b, rfl, h⟩
theorem x_test (h : te σ H fun x H1 => kBl QT x H1) : tTest te σ H QT := h
theorem x_B (h : te σ H fun x H1 => kBl QT x H1) : tB te σ H QT := h
theorem x_and (h : tt σ H fun c H1 => if c = true then tu σ H1 QT else QT false H1) : tAnd tt tu σ H QT := h
theorem x_or (h : tt σ H fun c H1 => if c = true then QT true H1 else tu σ H1 QT) : tOr tt tu σ H QT := h
theorem x_not (h : tt σ H fun c H1 => QT (!c) H1) : tNot tt σ H QT := h
def kAndV (tb : TE) (σ : L2.St) (Q : VK) (x : V) (H : Hp) : Prop := ∃ c, x = .bl c ∧ if c = true then tb σ H Q else Q (.bl false) H
def kOrV (tb : TE) (σ : L2.St) (Q : VK) (x : V) (H : Hp) : Prop := ∃ c, x = .bl c ∧ if c = true then Q (.bl true) H else tb σ H Q
theorem x_andV (h : ta σ H fun x H1 => kAndV tb σ Q x H1) : tAndV ta tb σ H Q := h
theorem x_orV (h : ta σ H fun x H1 => kOrV tb σ Q x H1) : tOrV ta tb σ H Q := h
theorem x_kAndV {c : Bool} (h : if c = true then tb σ H Q else Q (.bl false) H) : kAndV tb σ Q (.bl c) H := ⟨c, rfl, h⟩
theorem x_kOrV {c : Bool} (h : if c = true then Q (.bl true) H else tb σ H Q) : kOrV tb σ Q (.bl c) H := ⟨c, rfl, h⟩
def kNotV (Q : VK) (x : V) (H : Hp) : Prop := ∃ c, x = .bl c ∧ Q (.bl (!c)) H
theorem x_notV (h : ta σ H fun x H1 => kNotV Q x H1) : tNotV ta σ H Q := h
theorem x_kNotV {c : Bool} (h : Q (.bl (!c)) H) : kNotV Q (.bl c) H := ⟨c, rfl, h⟩
theorem x_ifE (h : tt σ H fun c H1 => if c = true then ta σ H1 Q else tb σ H1 Q) : tIf tt ta tb σ H Q := h
/-! ### values -/
theorem x_var {i : Nat} (e : σ[i]? = some (some v)) (h : Q v H) : tVar i σ H Q := ⟨v, e, h⟩
theorem x_c (h : Q v H) : tC v σ H Q := h
theorem x_op (h : ta σ H fun x H1 => tb σ H1 fun y H2 => r x y H2 Q) : tOp r ta tb σ H Q := h
theorem x_un {r : V → Hp → VK → Prop} (h : ta σ H fun x H1 => r x H1 Q) : tUn r ta σ H Q := h
theorem x_nil (h : QA [] H) : tNil σ H QA := h
theorem x_cons {tr : TA} (h : te σ H fun x H1 => tr σ H1 fun xs H2 => QA (x :: xs) H2) : tCons te tr σ H QA := h
theorem x_cb {r : VR} {a : TA} (h : a σ H fun vs H1 => r vs H1 Q) : tCB r a σ H Q := h
theorem x_call {sp : Sp} {ds : List V} {E : XK} {a : TA} (h : a σ H fun vs H1 => sp (vs ++ ds) H1 Q E) : tCall sp ds E a σ H Q := h
def kTup (Q : VK) (xs : List V) (H : Hp) : Prop := xs.length ≤ sizeLine ∧ ∀ p, H p = none → Q (.ref p) (upd H p (.tup xs))
def kLst (Q : VK) (xs : List V) (H : Hp) : Prop := xs.length ≤ sizeLine ∧ ∀ p, H p = none → Q (.ref p) (upd H p (.lst xs))
theorem x_tup {a : TA} (h : a σ H fun vs H1 => kTup Q vs H1) : tTup a σ H Q := h
theorem x_lst {a : TA} (h : a σ H fun vs H1 => kLst Q vs H1) : tLst a σ H Q := h
theorem x_kTup {xs : List V} (hl : xs.length ≤ 100000) (h : ∀ p H', H p = none → Same H H' → H' p = some (.tup xs) → Q (.ref p) H') : kTup Q xs H := ⟨sz hl, fun p hp => h p _ hp (Same.new hp) upd_same⟩
theorem x_kLst {xs : List V} (hl : xs.length ≤ 100000) (h : ∀ p H', H p = none → Same H H' → H' p = some (.lst xs) → Q (.ref p) H') : kLst Q xs H := ⟨sz hl, fun p hp => h p _ hp (Same.new hp) upd_same⟩
/-! ### ints, texts -/
theorem x_nAdd {i j : Int} (h : Q (.int (i + j)) H) : nAdd (.int i) (.int j) H Q := ⟨i, j, rfl, rfl, h⟩
theorem x_nSub {i j : Int} (h : Q (.int (i - j)) H) : nSub (.int i) (.int j) H Q := ⟨i, j, rfl, rfl, h⟩
theorem x_nMul {i j : Int} (c : CMul i j) (h : Q (.int (i * j)) H) : nMul (.int i) (.int j) H Q := ⟨i, j, rfl, rfl, c, h⟩
theorem x_nDiv {i j : Int} (c : CDivW i j) (h : Q (.int (i / j)) H) : nDiv (.int i) (.int j) H Q := ⟨i, j, rfl, rfl, c, h⟩
theorem x_nMod {i j : Int} (c : 0 < j) (h : Q (.int (i % j)) H) : nMod (.int i) (.int j) H Q := ⟨i, j, rfl, rfl, c, h⟩
theorem x_nPow {i j : Int} (c : CPow i j) (h : Q (.int (i ^ j.toNat)) H) : nPow (.int i) (.int j) H Q := ⟨i, j, rfl, rfl, c, h⟩
theorem x_nLt {i j : Int} (h : Q (.bl (decide (i < j))) H) : nLt (.int i) (.int j) H Q := ⟨i, j, rfl, rfl, h⟩
theorem x_nLe {i j : Int} (h : Q (.bl (decide (i ≤ j))) H) : nLe (.int i) (.int j) H Q := ⟨i, j, rfl, rfl, h⟩
theorem x_nGt {i j : Int} (h : Q (.bl (decide (j < i))) H) : nGt (.int i) (.int j) H Q := ⟨i, j, rfl, rfl, h⟩
theorem x_nGe {i j : Int} (h : Q (.bl (decide (j ≤ i))) H) : nGe (.int i) (.int j) H Q := ⟨i, j, rfl, rfl, h⟩
theorem dci {i j : Int} : decide (V.int i = V.int j) = decide (i = j) := by
  by_cases h : i = j
  · subst h; simp
  · rw [decide_eq_false h, decide_eq_false fun e => h (V.int.inj e)]
theorem dcs {i j : Str} : decide (V.str i = V.str j) = decide (i = j) := by
  by_cases h : i = j
  · subst h; simp
  · rw [decide_eq_false h, decide_eq_false fun e => h (V.str.inj e)]
theorem dcb {i j : Bool} : decide (V.bl i = V.bl j) = decide (i = j) := by
  by_cases h : i = j
  · subst h; simp
  · rw [decide_eq_false h, decide_eq_false fun e => h (V.bl.inj e)]
theorem x_eqI {i j : Int} (h : Q (.bl (decide (i = j))) H) : rEq (.int i) (.int j) H Q := ⟨rfl, by rw [dci]; exact h⟩
theorem x_neI {i j : Int} (h : Q (.bl (!decide (i = j))) H) : rNe (.int i) (.int j) H Q := ⟨rfl, by rw [dci]; exact h⟩
theorem x_eqS {i j : Str} (h : Q (.bl (decide (i = j))) H) : rEq (.str i) (.str j) H Q := ⟨rfl, by rw [dcs]; exact h⟩
theorem x_neS {i j : Str} (h : Q (.bl (!decide (i = j))) H) : rNe (.str i) (.str j) H Q := ⟨rfl, by rw [dcs]; exact h⟩
theorem x_eqB {i j : Bool} (h : Q (.bl (decide (i = j))) H) : rEq (.bl i) (.bl j) H Q := ⟨rfl, by rw [dcb]; exact h⟩
theorem x_sAdd {i j : Str} (c : i.length + j.length ≤ 100000) (h : Q (.str (i ++ j)) H) : sAdd (.str i) (.str j) H Q := ⟨i, j, rfl, rfl, sz c, h⟩
theorem x_sMul {i : Str} {j : Int} (c : MulOk i j) (h : Q (.str (Txt.mul i j)) H) : sMul (.str i) (.int j) H Q := ⟨i, j, rfl, rfl, c, h⟩
theorem x_isN (h : Q (.bl (decide (x = .non))) H) : rIsNo x .non H Q := ⟨rfl, h⟩
theorem x_notN (h : Q (.bl (!decide (x = .non))) H) : rNotNo x .non H Q := ⟨rfl, h⟩
def uNeg : V → Hp → VK → Prop := rU fun i => .int (-i)
theorem u_neg {X : Cx} : UnR X (unaryOp .USub) uNeg := un_neg
theorem x_neg {i : Int} (h : Q (.int (-i)) H) : uNeg (.int i) H Q := ⟨i, rfl, h⟩
theorem x_abs {i : Int} (h : Q (.int (if i < 0 then -i else i)) H) : cAbs [.int i] H Q := ⟨i, rfl, h⟩
theorem x_int {i : Int} (h : Q (.int i) H) : cInt [.int i] H Q := .inl ⟨i, rfl, h⟩
theorem x_intB {b : Bool} (h : Q (.int (if b then 1 else 0)) H) : cInt [.bl b] H Q := .inr ⟨b, rfl, h⟩
def kChain (r' : R2) (tc : TE) (σ : L2.St) (Q : VK) (y : V) (z : V) (H3 : Hp) : Prop := ∃ k, z = .bl k ∧ (if k = true then tc σ H3 fun z' H4 => r' y z' H4 Q else Q (.bl false) H3)
theorem x_chain (h : ta σ H fun x H1 => tb σ H1 fun y H2 => r x y H2 fun z H3 => kChain r' tc σ Q y z H3) : tChain r r' ta tb tc σ H Q := h
theorem x_kChain {b : Bool} (h : if b = true then tc σ H fun z' H4 => r' y z' H4 Q else Q (.bl false) H) : kChain r' tc σ Q y (.bl b) H := ⟨b, rfl, h⟩
/-! ### sequences -/
theorem x_ixL {p : Addr} {xs : List V} {i : Int} (a : SqL K H p xs) (e : atI xs i = some v) (h : Q v H) : rIxL K (.ref p) (.int i) H Q := ⟨p, xs, i, v, rfl, rfl, a, e, h⟩
theorem x_ixT {p : Addr} {xs : List V} {i : Int} (a : SqT K H p xs) (e : atI xs i = some v) (h : Q v H) : rIxT K (.ref p) (.int i) H Q := ⟨p, xs, i, v, rfl, rfl, a, e, h⟩
theorem x_ixS {w : Str} {i : Int} {c : Nat} (l : w.length ≤ 100000) (e : atI w.cps.toList i = some c) (h : Q (.str ⟨#[c]⟩) H) : rIxS (.str w) (.int i) H Q := ⟨w, i, c, rfl, rfl, sz l, e, h⟩
theorem x_lenL {p : Addr} {xs : List V} (a : SqL K H p xs) (h : Q (.int (xs.length : Nat)) H) : cLenQ K [.ref p] H Q := ⟨p, xs, rfl, .inl a, h⟩
theorem x_lenT {p : Addr} {xs : List V} (a : SqT K H p xs) (h : Q (.int (xs.length : Nat)) H) : cLenQ K [.ref p] H Q := ⟨p, xs, rfl, .inr a, h⟩
theorem x_listL {p : Addr} {xs : List V} (a : SqL K H p xs) (h : ∀ l H', H l = none → Same H H' → H' l = some (.lst xs) → Q (.ref l) H') : cList K [.ref p] H Q := ⟨p, xs, rfl, .inl a, fun l hl => h l _ hl (Same.new hl) upd_same⟩
theorem x_listT {p : Addr} {xs : List V} (a : SqT K H p xs) (h : ∀ l H', H l = none → Same H H' → H' l = some (.lst xs) → Q (.ref l) H') : cList K [.ref p] H Q := ⟨p, xs, rfl, .inr a, fun l hl => h l _ hl (Same.new hl) upd_same⟩
theorem x_sl {r : V → Option Int → Option Int → Hp → VK → Prop} {tl th : TO} (h : te σ H fun x H1 => tl σ H1 fun l H2 => th σ H2 fun u H3 => r x l u H3 Q) : tSl r te tl th σ H Q := h
theorem x_noPart {Qo : Option Int → Hp → Prop} (h : Qo none H) : tNoPart σ H Qo := h
def kPart (Qo : Option Int → Hp → Prop) (x : V) (H : Hp) : Prop := ∃ i, x = .int i ∧ Qo (some i) H
theorem x_part {Qo : Option Int → Hp → Prop} (h : te σ H fun x H1 => kPart Qo x H1) : tPart te σ H Qo := h
theorem x_kPart {Qo : Option Int → Hp → Prop} {i : Int} (h : Qo (some i) H) : kPart Qo (.int i) H := ⟨i, rfl, h⟩
theorem x_slL {p : Addr} {xs : List V} {lo hi : Option Int} (a : SqL K H p xs) (h : ∀ l H', H l = none → Same H H' → H' l = some (.lst (cutV xs lo hi)) → Q (.ref l) H') : rSlL K (.ref p) lo hi H Q := ⟨p, xs, rfl, a, fun l hl => h l _ hl (Same.new hl) upd_same⟩
theorem x_slS {w : Str} {lo hi : Option Int} (l : w.length ≤ 100000) (h : Q (.str (cutS w lo hi)) H) : rSlS (.str w) lo hi H Q := ⟨w, rfl, sz l, h⟩
theorem x_catA {p q : Addr} {xs ys : List V} (a : SqT K H p xs) (b : SqT K H q ys) (nx : xs ≠ []) (ny : ys ≠ []) (l : xs.length + ys.length ≤ 100000) (h : ∀ t H', H t = none → Same H H' → H' t = some (.tup (xs ++ ys)) → Q (.ref t) H') : rCatA K (.ref p) (.ref q) H Q :=
  ⟨p, q, xs, ys, rfl, rfl, a, b, sz l, fun e => absurd e nx, fun _ e => absurd e ny, fun _ _ t ht => h t _ ht (Same.new ht) upd_same⟩
def cutL {α : Type} (xs : List α) (lo hi : Option Int) : List α := (xs.drop (HT.sIx xs.length 0 lo)).take (HT.sIx xs.length xs.length hi - HT.sIx xs.length 0 lo)
theorem cutV_map {α : Type} (f : α → V) (xs : List α) (lo hi : Option Int) : cutV (xs.map f) lo hi = (cutL xs lo hi).map f := by
  unfold cutV cutL
  rw [List.length_map, ← List.map_drop, ← List.map_take]
theorem cutL_len {α : Type} (xs : List α) (lo hi : Option Int) : (cutL xs lo hi).length ≤ xs.length := by
  unfold cutL
  rw [List.length_take, List.length_drop]
  omega
theorem cutL_to {α : Type} (xs : List α) (k : Nat) : cutL xs none (some (k : Int)) = xs.take k := by
  unfold cutL
  rw [HT.sIx_none, HT.sIx_nat, List.drop_zero, Nat.sub_zero]
  by_cases h : k ≤ xs.length
  · rw [Nat.min_eq_left h]
  · rw [Nat.min_eq_right (by omega), List.take_of_length_le (Nat.le_refl _), List.take_of_length_le (by omega)]
theorem cutL_from {α : Type} (xs : List α) (k : Nat) : cutL xs (some (k : Int)) none = xs.drop k := by
  unfold cutL
  rw [HT.sIx_none, HT.sIx_nat]
  by_cases h : k ≤ xs.length
  · rw [Nat.min_eq_left h, List.take_of_length_le (by rw [List.length_drop]; exact Nat.le_refl _)]
  · rw [Nat.min_eq_right (by omega), List.drop_of_length_le (Nat.le_refl _), List.drop_of_length_le (by omega)]
    simp
/-! ### targets -/
theorem x_gnil (h : nx σ H) : gNil [] σ H nx := ⟨rfl, h⟩
theorem x_gcons {g' : TGs} {vs : List V} (h : g v σ H fun σ' H' => g' vs σ' H' nx) : gCons g g' (v :: vs) σ H nx := ⟨v, vs, rfl, h⟩
theorem x_gtup {n : Nat} {g' : TGs} {p : Addr} {xs : List V} (a : SqT K H p xs) (l : xs.length = n) (h : g' xs σ H nx) : gTup K n g' (.ref p) σ H nx := ⟨p, xs, rfl, a, l, h⟩
theorem x_gunl {n : Nat} {g' : TGs} {p : Addr} {xs : List V} (a : SqL K H p xs) (l : xs.length = n) (h : g' xs σ H nx) : gUnl K n g' (.ref p) σ H nx := ⟨p, xs, rfl, a, l, h⟩
theorem x_gsub {st : TSet} (h : ta σ H fun o H1 => tb σ H1 fun i H2 => st o i v H2 fun H3 => nx σ H3) : gSub ta tb st v σ H nx := h
theorem x_setL {p : Addr} {xs : List V} {i : Int} {j : Nat} {Qh : Hp → Prop} (a : H p = some (.lst xs)) (e : ixN xs.length i = some j) (h : ∀ H', But p H H' → H' p = some (.lst (xs.set j v)) → Qh H') : rSetL (.ref p) (.int i) v H Qh :=
  ⟨p, xs, i, j, rfl, rfl, a, e, h _ But.upd upd_same⟩
def kTail (v : V) (σ : L2.St) (nx : L2.St → Hp → Prop) (o : V) (lo : Option Int) (H2 : Hp) : Prop := ∃ (l b : Addr) (xs ys : List V) (a : Nat), o = .ref l ∧ v = .ref b ∧ lo = some (a : Int) ∧ H2 l = some (.lst xs) ∧ H2 b = some (.lst ys) ∧ l ≠ b ∧
  a ≤ xs.length ∧ xs.length + ys.length ≤ sizeLine ∧ nx σ (upd H2 l (.lst (xs.take a ++ ys)))
theorem x_gtail {tl : TO} (h : ta σ H fun o H1 => tl σ H1 fun lo H2 => kTail v σ nx o lo H2) : gTail ta tl v σ H nx := h
theorem x_kTail {l b : Addr} {xs ys : List V} {i : Int} {a : Nat} (e : i = (a : Int)) (h1 : H l = some (.lst xs)) (h2 : H b = some (.lst ys)) (n : l ≠ b) (ha : a ≤ xs.length) (hz : xs.length + ys.length ≤ 100000) (h : ∀ H', But l H H' → H' l = some (.lst (xs.take a ++ ys)) → nx σ H') :
    kTail (.ref b) σ nx (.ref l) (some i) H := ⟨l, b, xs, ys, a, rfl, rfl, by rw [e], h1, h2, n, ha, sz hz, h _ But.upd upd_same⟩
/-! ### methods of lists -/
theorem x_bm {T : String} {r : V → List V → Hp → VK → Prop} {a : TA} (h : te σ H fun x H1 => tyV K T x H1 ∧ a σ H1 fun xs H2 => r x xs H2 Q) : tBM K T r te a σ H Q := h
theorem x_bm0 {T : String} {r : V → List V → Hp → VK → Prop} (h : te σ H fun x H1 => tyV K T x H1 ∧ r x [] H1 Q) : tBM0 K T r te σ H Q := h
theorem x_tyL {p : Addr} {xs : List V} {P : Prop} (a : SqL K H p xs) (h : P) : tyV K "list" (.ref p) H ∧ P := ⟨.inl ⟨rfl, _, a⟩, h⟩
theorem x_append {p : Addr} {xs : List V} (a : H p = some (.lst xs)) (l : xs.length < 100000) (h : ∀ H', But p H H' → H' p = some (.lst (xs ++ [v])) → Q .non H') : rAppend (.ref p) [v] H Q := ⟨p, xs, v, rfl, rfl, a, szl l, h _ But.upd upd_same⟩
theorem x_popAt {p : Addr} {xs : List V} {i : Int} {k : Nat} (a : H p = some (.lst xs)) (b1 : -(2 ^ 63) ≤ i) (b2 : i < 2 ^ 63) (e : seqIndex? i xs.length = some k) (g : xs[k]? = some v) (h : ∀ H', But p H H' → H' p = some (.lst (xs.eraseIdx k)) → Q v H') : rPopAt (.ref p) [.int i] H Q :=
  ⟨p, xs, i, k, v, rfl, rfl, a, b1, b2, e, g, h _ But.upd upd_same⟩
/-! ### fields -/
def kFld (K : PySem.W.Frag) (f : Str) (Q : VK) (x : V) (H1 : Hp) : Prop := ∃ a C dx fs v, x = .ref a ∧ H1 a = some (.ins C dx fs) ∧ Cls K C ∧ NoAttr K C f ∧ fs.lookup f = some v ∧ Q v H1
theorem x_fld {f : Str} (h : te σ H fun x H1 => kFld K f Q x H1) : tFld K te f σ H Q := h
theorem x_kFld {f : Str} {p C dx : Addr} {fs : List (Str × V)} (a : H p = some (.ins C dx fs)) (c : Cls K C) (n : NoAttr K C f) (e : fs.lookup f = some v) (h : Q v H) : kFld K f Q (.ref p) H := ⟨p, C, dx, fs, v, rfl, a, c, n, e, h⟩
def kSFld (K : PySem.W.Frag) (f : Str) (nx : L2.St → Hp → Prop) (σ : L2.St) (y x : V) (H2 : Hp) : Prop := ∃ a C dx fs, x = .ref a ∧ H2 a = some (.ins C dx fs) ∧ Cls K C ∧ NoAttr K C f ∧ fs.length < 1000 ∧ nx σ (upd H2 a (.ins C dx (putF f y fs)))
theorem x_sFld {f : Str} (h : tb σ H fun y H1 => ta σ H1 fun x H2 => kSFld K f nx σ y x H2) : sFld K ta tb f ⟨nx, rt, bk, ct⟩ σ H := h
theorem x_kSFld {f : Str} {p C dx : Addr} {fs : List (Str × V)} (a : H p = some (.ins C dx fs)) (c : Cls K C) (n : NoAttr K C f) (l : fs.length < 1000) (h : ∀ H', But p H H' → H' p = some (.ins C dx (putF f y fs)) → nx σ H') : kSFld K f nx σ y (.ref p) H :=
  ⟨p, C, dx, fs, rfl, a, c, n, l, h _ But.upd upd_same⟩
def kSFldAug (K : PySem.W.Frag) (tv : TE) (rd : V → V → Hp → VK → Prop) (f : Str) (nx : L2.St → Hp → Prop) (σ : L2.St) (x : V) (H1 : Hp) : Prop := ∃ a C dx fs v, x = .ref a ∧ H1 a = some (.ins C dx fs) ∧ Cls K C ∧ NoAttr K C f ∧ fs.lookup f = some v ∧
  tv σ H1 fun y H2 => rd v y H2 fun z H3 => ∃ fs', H3 a = some (.ins C dx fs') ∧ fs'.length < 1000 ∧ nx σ (upd H3 a (.ins C dx (putF f z fs')))
end
section
variable {K : PySem.W.Frag} {σ : L2.St} {H : Hp} {Q : VK} {v x y z : V} {ta tb te tc td : TE} {nx bk ct : L2.St → Hp → Prop} {rt : VK}
theorem x_sFldAug {f : Str} {rd : V → V → Hp → VK → Prop} (h : ta σ H fun x H1 => ∃ a C dx fs v, x = .ref a ∧ H1 a = some (.ins C dx fs) ∧ Cls K C ∧ NoAttr K C f ∧ fs.lookup f = some v ∧
  tb σ H1 fun y H2 => rd v y H2 fun z H3 => ∃ dx' fs', H3 a = some (.ins C dx' fs') ∧ fs'.length < 1000 ∧ nx σ (upd H3 a (.ins C dx' (putF f z fs')))) : sFldAug K ta tb rd f ⟨nx, rt, bk, ct⟩ σ H := h
def kFA (K : PySem.W.Frag) (f : Str) (a : Addr) (C : Addr) (nx : L2.St → Hp → Prop) (σ : L2.St) (z : V) (H3 : Hp) : Prop := ∃ dx' fs', H3 a = some (.ins C dx' fs') ∧ fs'.length < 1000 ∧ nx σ (upd H3 a (.ins C dx' (putF f z fs')))
/-- o.f += e, o at p -/
theorem x_fldAug {f : Str} {rd : V → V → Hp → VK → Prop} {i : Nat} {p C dx : Addr} {fs : List (Str × V)} (hi : σ[i]? = some (some (.ref p))) (a : H p = some (.ins C dx fs)) (c : Cls K C) (n : NoAttr K C f) (e : fs.lookup f = some v)
  (h : tb σ H fun y H2 => rd v y H2 fun z H3 => kFA K f p C nx σ z H3) : sFldAug K (tVar i) tb rd f ⟨nx, rt, bk, ct⟩ σ H := ⟨_, hi, p, C, dx, fs, v, rfl, a, c, n, e, h⟩
theorem x_kFA {f : Str} {p C dx : Addr} {fs : List (Str × V)} (a : H p = some (.ins C dx fs)) (l : fs.length < 1000) (h : ∀ H', But p H H' → H' p = some (.ins C dx (putF f z fs)) → nx σ H') : kFA K f p C nx σ z H := ⟨dx, fs, a, l, h _ But.upd upd_same⟩
theorem x_rAdd {i j : Int} (h : Q (.int (i + j)) H) : rAdd (.int i) (.int j) H Q := ⟨i, j, rfl, rfl, h⟩
theorem x_ipI {f : Int → Int → Int} {i j : Int} (h : Q (.int (f i j)) H) : ipI f (.int i) (.int j) H Q := ⟨i, j, rfl, rfl, h⟩
def kAug (i : Nat) (nx : L2.St → Hp → Prop) (σ : L2.St) (z : V) (H : Hp) : Prop := nx (σ.set i (some z)) H
theorem x_aug {i : Nat} {ti : TIp} (hi : σ[i]? = some (some v)) (h : te σ H fun y H1 => ti v y H1 fun z H2 => kAug i nx σ z H2) : tAug i te ti ⟨nx, rt, bk, ct⟩ σ H := ⟨v, hi, h⟩
theorem x_kAug {i : Nat} {σ' : L2.St} (e : σ.set i (some z) = σ') (h : nx σ' H) : kAug i nx σ z H := by subst e; exact h
theorem x_augS {gt : V → V → Hp → VK → Prop} {ti : TIp} {st : TSet} (h : ta σ H fun o H1 => tb σ H1 fun i H2 => gt o i H2 fun x H3 => te σ H3 fun y H4 => ti x y H4 fun z H5 => st o i z H5 fun H6 => nx σ H6) : tAugS ta tb te gt ti st ⟨nx, rt, bk, ct⟩ σ H := h
theorem x_gIxL {p : Addr} {xs : List V} {i : Int} {j : Nat} (e : i = (j : Int)) (a : SqL K H p xs) (g : xs[j]? = some v) (h : Q v H) : gIxL K (.ref p) (.int i) H Q := ⟨p, xs, j, v, rfl, by rw [e], a, g, h⟩
theorem x_gIxLn {p : Addr} {xs : List V} {i : Int} (h0 : 0 ≤ i) (a : SqL K H p xs) (g : xs[i.toNat]? = some v) (h : Q v H) : gIxL K (.ref p) (.int i) H Q := x_gIxL (j := i.toNat) (by omega) a g h
/-! ### dicts with keys that are ints or texts -/
theorem x_dnew (h : ∀ p H', H p = none → Same H H' → H' p = some (.dK []) → Q (.ref p) H') : tDNewK σ H Q := fun p hp => h p _ hp (Same.new hp) upd_same
def kDGet (Q : VK) (x y : V) (H2 : Hp) : Prop := ∃ a v, x = .ref a ∧ DGet H2 a y (some v) ∧ Q v H2
theorem x_dget (h : td σ H fun x H1 => ta σ H1 fun y H2 => kDGet Q x y H2) : tDGet td ta σ H Q := h
theorem x_kDGetS {p : Addr} {kvs : List (Key × V)} {k : Str} (a : Rd H p (.dK kvs)) (e : valV kvs (.inr k) = some v) (h : Q v H) : kDGet Q (.ref p) (.str k) H := ⟨p, v, rfl, .inl ⟨kvs, .inr k, a, rfl, e.symm⟩, h⟩
theorem x_kDGetI {p : Addr} {kvs : List (Key × V)} {k : Int} (a : Rd H p (.dK kvs)) (e : valV kvs (.inl k) = some v) (h : Q v H) : kDGet Q (.ref p) (.int k) H := ⟨p, v, rfl, .inl ⟨kvs, .inl k, a, rfl, e.symm⟩, h⟩
def kDIn (neg : Bool) (Q : VK) (y x : V) (H2 : Hp) : Prop := ∃ a o, x = .ref a ∧ DGet H2 a y o ∧ Q (.bl (if neg then !o.isSome else o.isSome)) H2
theorem x_din (h : ta σ H fun y H1 => td σ H1 fun x H2 => kDIn false Q y x H2) : tDIn ta td σ H Q := h
theorem x_dnotin (h : ta σ H fun y H1 => td σ H1 fun x H2 => kDIn true Q y x H2) : tDNotIn ta td σ H Q := h
theorem x_kDInS {p : Addr} {kvs : List (Key × V)} {k : Str} (a : Rd H p (.dK kvs)) (h : Q (.bl (valV kvs (.inr k)).isSome) H) : kDIn false Q (.str k) (.ref p) H := ⟨p, _, rfl, .inl ⟨kvs, .inr k, a, rfl, rfl⟩, h⟩
theorem x_kDInI {p : Addr} {kvs : List (Key × V)} {k : Int} (a : Rd H p (.dK kvs)) (h : Q (.bl (valV kvs (.inl k)).isSome) H) : kDIn false Q (.int k) (.ref p) H := ⟨p, _, rfl, .inl ⟨kvs, .inl k, a, rfl, rfl⟩, h⟩
theorem x_kDNotInS {p : Addr} {kvs : List (Key × V)} {k : Str} (a : Rd H p (.dK kvs)) (h : Q (.bl (!(valV kvs (.inr k)).isSome)) H) : kDIn true Q (.str k) (.ref p) H := ⟨p, _, rfl, .inl ⟨kvs, .inr k, a, rfl, rfl⟩, h⟩
theorem x_kDNotInI {p : Addr} {kvs : List (Key × V)} {k : Int} (a : Rd H p (.dK kvs)) (h : Q (.bl (!(valV kvs (.inl k)).isSome)) H) : kDIn true Q (.int k) (.ref p) H := ⟨p, _, rfl, .inl ⟨kvs, .inl k, a, rfl, rfl⟩, h⟩
def kDPut (nx : L2.St → Hp → Prop) (σ : L2.St) (v x y : V) (H3 : Hp) : Prop := ∃ a H4, x = .ref a ∧ DPut H3 a y v H4 ∧ nx σ H4
theorem x_dput (h : te σ H fun v H1 => td σ H1 fun x H2 => ta σ H2 fun y H3 => kDPut nx σ v x y H3) : sDPut td ta te ⟨nx, rt, bk, ct⟩ σ H := h
theorem x_kDPutS {p : Addr} {kvs : List (Key × V)} {k : Str} (a : H p = some (.dK kvs)) (l : kvs.length < 100000) (h : ∀ H', But p H H' → H' p = some (.dK (putK kvs (.inr k) v)) → nx σ H') : kDPut nx σ v (.ref p) (.str k) H := ⟨p, _, rfl, DPut.k (k := Sum.inr k) a (szl l), h _ But.upd upd_same⟩
theorem x_kDPutI {p : Addr} {kvs : List (Key × V)} {k : Int} (a : H p = some (.dK kvs)) (l : kvs.length < 100000) (h : ∀ H', But p H H' → H' p = some (.dK (putK kvs (.inl k) v)) → nx σ H') : kDPut nx σ v (.ref p) (.int k) H := ⟨p, _, rfl, DPut.k (k := Sum.inl k) a (szl l), h _ But.upd upd_same⟩
/-- d.setdefault(y, z), d at p -/
theorem x_setd {i : Nat} {p : Addr} {kvs : List (Key × V)} (hi : σ[i]? = some (some (.ref p))) (a : H p = some (.dK kvs)) (h : ta σ H fun y H2 => tb σ H2 fun z H3 => ∃ (kvs : List (Key × V)) (k : Key), H3 p = some (.dK kvs) ∧ y = kV k ∧ kvs.length < sizeLine ∧
  (∀ v, valV kvs k = some v → Q v H3) ∧ (valV kvs k = none → Q z (upd H3 p (.dK (putK kvs k z))))) : tDSetd (tVar i) ta tb σ H Q := ⟨_, hi, p, rfl, .inl ⟨kvs, .inl a⟩, h⟩
theorem x_kSetd {p : Addr} {kvs : List (Key × V)} {k : Str} (a : H p = some (.dK kvs)) (l : kvs.length < 100000) (h1 : ∀ v, valV kvs (.inr k) = some v → Q v H) (h2 : valV kvs (.inr k) = none → ∀ H', But p H H' → H' p = some (.dK (kvs ++ [(.inr k, z)])) → Q z H') :
  ∃ (kvs : List (Key × V)) (j : Key), H p = some (.dK kvs) ∧ V.str k = kV j ∧ kvs.length < sizeLine ∧ (∀ v, valV kvs j = some v → Q v H) ∧ (valV kvs j = none → Q z (upd H p (.dK (putK kvs j z)))) :=
  ⟨kvs, .inr k, a, rfl, szl l, h1, fun e => h2 e _ But.upd (by rw [putK_new z e]; exact upd_same)⟩
/-! ### methods, instances -/
def kMeth (C : Addr) (m : Str) (sp : Sp) (ds : List V) (E : XK) (a : TA) (σ : L2.St) (Q : VK) (x : V) (H1 : Hp) : Prop := ∃ b dx fs, x = .ref b ∧ H1 b = some (.ins C dx fs) ∧ fs.lookup m = none ∧ a σ H1 fun vs H2 => sp (x :: (vs ++ ds)) H2 Q E
theorem x_meth {C : Addr} {m : Str} {sp : Sp} {ds : List V} {E : XK} {a : TA} (h : ta σ H fun x H1 => kMeth C m sp ds E a σ Q x H1) : tMeth C m sp ds E ta a σ H Q := h
theorem x_kMeth {C p dx : Addr} {m : Str} {sp : Sp} {ds : List V} {E : XK} {t : TA} {fs : List (Str × V)} (a : H p = some (.ins C dx fs)) (l : fs.lookup m = none) (h : t σ H fun vs H2 => sp (.ref p :: (vs ++ ds)) H2 Q E) : kMeth C m sp ds E t σ Q (.ref p) H := ⟨p, dx, fs, rfl, a, l, h⟩
def kMake (C : Addr) (sp : Sp) (ds : List V) (E : XK) (Q : VK) (vs : List V) (H1 : Hp) : Prop := ∀ x dx, H1 x = none → H1 dx = none → dx ≠ x → sp (.ref x :: (vs ++ ds)) (upd (upd H1 dx (.own x)) x (.ins C dx [])) (fun v H2 => v = .non ∧ Q (.ref x) H2) E
theorem x_make {C : Addr} {sp : Sp} {ds : List V} {E : XK} {a : TA} (h : a σ H fun vs H1 => kMake C sp ds E Q vs H1) : tMake C sp ds E a σ H Q := h
theorem x_kMake {C : Addr} {sp : Sp} {ds : List V} {E : XK} {vs : List V} (h : ∀ p dx H', H p = none → Same H H' → H' p = some (.ins C dx []) → sp (.ref p :: (vs ++ ds)) H' (fun v H2 => v = .non ∧ Q (.ref p) H2) E) : kMake C sp ds E Q vs H :=
  fun p dx hp hd hne => h p dx _ hp ((Same.new hd).trans (Same.new (by rw [upd_ne hne.symm]; exact hp))) upd_same
/-! ### loops -/
section
variable {g : TG} {tt : TT} {t : TS}
def kForL (K : PySem.W.Frag) (g : TG) (t : TS) (D : Ends) (σ : L2.St) (x : V) (H1 : Hp) : Prop := ∃ a, x = .ref a ∧ (∃ xs, SqL K H1 a xs) ∧ ∃ W : Nat → Nat → L2.St → Hp → Prop, (∃ m, W 0 m σ H1) ∧ ∀ i m σ H, W i m σ H →
  ((Itl K a).stop i H ∧ D.nx σ H) ∨ ((Itl K a).go i H ∧ ∃ N : L2.St → Hp → Prop, (∀ σ' H', N σ' H' → ∃ m', m' < m ∧ W (i + 1) m' σ' H') ∧ ∀ x H', (Itl K a).yld i H x H' → g x σ H' fun σ2 H2 => t { D with nx := N, ct := N, bk := D.nx } σ2 H2)
theorem x_forL (h : te σ H fun x H1 => kForL K g t ⟨nx, rt, bk, ct⟩ σ x H1) : tFor (iList K te) g t ⟨nx, rt, bk, ct⟩ σ H := h
theorem x_kForL {a : Addr} {xs : List V} (hx : SqL K H a xs) (Pv : Nat → L2.St → Hp → Prop) (h0 : Pv 0 σ H) (hl : ∀ i σ H, i ≤ xs.length → Pv i σ H → SqL K H a xs)
    (hs : ∀ i x σ H, xs[i]? = some x → Pv i σ H → g x σ H fun σ2 H2 => t ⟨Pv (i + 1), rt, nx, Pv (i + 1)⟩ σ2 H2) (hd : ∀ σ H, Pv xs.length σ H → nx σ H) : kForL K g t ⟨nx, rt, bk, ct⟩ σ (.ref a) H := ⟨a, rfl, ⟨xs, hx⟩, for_list Pv h0 hl hs hd⟩
def kForT (K : PySem.W.Frag) (g : TG) (t : TS) (D : Ends) (σ : L2.St) (x : V) (H1 : Hp) : Prop := ∃ a, x = .ref a ∧ (∃ xs, SqT K H1 a xs) ∧ ∃ W : Nat → Nat → L2.St → Hp → Prop, (∃ m, W 0 m σ H1) ∧ ∀ i m σ H, W i m σ H →
  ((Itt K a).stop i H ∧ D.nx σ H) ∨ ((Itt K a).go i H ∧ ∃ N : L2.St → Hp → Prop, (∀ σ' H', N σ' H' → ∃ m', m' < m ∧ W (i + 1) m' σ' H') ∧ ∀ x H', (Itt K a).yld i H x H' → g x σ H' fun σ2 H2 => t { D with nx := N, ct := N, bk := D.nx } σ2 H2)
theorem x_forT (h : te σ H fun x H1 => kForT K g t ⟨nx, rt, bk, ct⟩ σ x H1) : tFor (iTup K te) g t ⟨nx, rt, bk, ct⟩ σ H := h
theorem x_kForT {a : Addr} {xs : List V} (hx : SqT K H a xs) (Pv : Nat → L2.St → Hp → Prop) (h0 : Pv 0 σ H) (hl : ∀ i σ H, i ≤ xs.length → Pv i σ H → SqT K H a xs)
    (hs : ∀ i x σ H, xs[i]? = some x → Pv i σ H → g x σ H fun σ2 H2 => t ⟨Pv (i + 1), rt, nx, Pv (i + 1)⟩ σ2 H2) (hd : ∀ σ H, Pv xs.length σ H → nx σ H) : kForT K g t ⟨nx, rt, bk, ct⟩ σ (.ref a) H := ⟨a, rfl, ⟨xs, hx⟩, for_tup Pv h0 hl hs hd⟩
def kForR (g : TG) (t : TS) (D : Ends) (σ : L2.St) (vs : List V) (H1 : Hp) : Prop := ∃ j : Int, vs = [.int j] ∧ -(2 ^ 62) ≤ j ∧ j < 2 ^ 62 ∧ ∃ W : Nat → Nat → L2.St → Hp → Prop, (∃ m, W 0 m σ H1) ∧ ∀ i m σ H, W i m σ H →
  ((Itr 0 j.toNat).stop i H ∧ D.nx σ H) ∨ ((Itr 0 j.toNat).go i H ∧ ∃ N : L2.St → Hp → Prop, (∀ σ' H', N σ' H' → ∃ m', m' < m ∧ W (i + 1) m' σ' H') ∧ ∀ x H', (Itr 0 j.toNat).yld i H x H' → g x σ H' fun σ2 H2 => t { D with nx := N, ct := N, bk := D.nx } σ2 H2)
theorem x_forR {a : TA} (h : a σ H fun vs H1 => kForR g t ⟨nx, rt, bk, ct⟩ σ vs H1) : tFor (iRng1 a) g t ⟨nx, rt, bk, ct⟩ σ H := h
theorem x_kForR {j : Int} {n : Nat} (e : j.toNat = n) (b : -100000 ≤ j ∧ j ≤ 100000) (Pv : Nat → L2.St → Hp → Prop) (h0 : Pv 0 σ H)
    (hs : ∀ (i : Nat) σ H, i < n → Pv i σ H → g (.int (i : Int)) σ H fun σ2 H2 => t ⟨Pv (i + 1), rt, nx, Pv (i + 1)⟩ σ2 H2) (hd : ∀ σ H, Pv n σ H → nx σ H) : kForR g t ⟨nx, rt, bk, ct⟩ σ [.int j] H :=
  ⟨j, rfl, by omega, by omega, by rw [e]; exact for_range (lo := 0) (n := n) Pv h0 (fun i σ H hi p => by rw [Int.zero_add]; exact hs i σ H hi p) hd⟩
def kTurn (W : Nat → L2.St → Hp → Prop) (m : Nat) (t : TS) (D : Ends) (σ : L2.St) (H1 : Hp) : Prop := ∃ N : L2.St → Hp → Prop, (∀ σ' H', N σ' H' → ∃ m', m' < m ∧ W m' σ' H') ∧ t { D with nx := N, ct := N, bk := D.nx } σ H1
theorem x_while (W : Nat → L2.St → Hp → Prop) (m0 : Nat) (h0 : W m0 σ H)
    (hs : ∀ m σ' H', W m σ' H' → tt σ' H' fun b H1 => if b = true then kTurn W m t ⟨nx, rt, bk, ct⟩ σ' H1 else nx σ' H1) : tWhile tt t ⟨nx, rt, bk, ct⟩ σ H := ⟨W, ⟨m0, h0⟩, hs⟩
theorem x_turn {W : Nat → L2.St → Hp → Prop} {m : Nat} (h : t ⟨fun σ2 H2 => ∃ m', m' < m ∧ W m' σ2 H2, rt, nx, fun σ2 H2 => ∃ m', m' < m ∧ W m' σ2 H2⟩ σ H) : kTurn W m t ⟨nx, rt, bk, ct⟩ σ H := ⟨_, fun _ _ q => q, h⟩
theorem x_for2 (h : g (.int 0) σ H fun σ2 H2 => t ⟨fun σ3 H3 => g (.int 1) σ3 H3 fun σ4 H4 => t ⟨nx, rt, nx, nx⟩ σ4 H4, rt, nx, fun σ3 H3 => g (.int 1) σ3 H3 fun σ4 H4 => t ⟨nx, rt, nx, nx⟩ σ4 H4⟩ σ2 H2) : kForR g t ⟨nx, rt, bk, ct⟩ σ [.int 2] H := by
  refine x_kForR (n := 2) rfl (by decide) (fun i σ' H' => match i with
    | 0 => σ' = σ ∧ H' = H
    | 1 => g (.int 1) σ' H' fun σ4 H4 => t ⟨nx, rt, nx, nx⟩ σ4 H4
    | _ => nx σ' H') ⟨rfl, rfl⟩ (fun i σ' H' hi p => ?_) (fun σ' H' p => p)
  match i, hi, p with
  | 0, _, p => obtain ⟨rfl, rfl⟩ := p; exact h
  | 1, _, p => exact p
/-- for i, x in enumerate(list): each a new tuple -/
def kForE (K : PySem.W.Frag) (g : TG) (t : TS) (D : Ends) (σ : L2.St) (vs : List V) (H1 : Hp) : Prop := ∃ a xs, vs = [.ref a] ∧ SqL K H1 a xs ∧ ∃ W : Nat → Nat → L2.St → Hp → Prop, (∃ m, W 0 m σ H1) ∧ ∀ i m σ H, W i m σ H →
  ((Ite K a).stop i H ∧ D.nx σ H) ∨ ((Ite K a).go i H ∧ ∃ N : L2.St → Hp → Prop, (∀ σ' H', N σ' H' → ∃ m', m' < m ∧ W (i + 1) m' σ' H') ∧ ∀ x H', (Ite K a).yld i H x H' → g x σ H' fun σ2 H2 => t { D with nx := N, ct := N, bk := D.nx } σ2 H2)
theorem x_forE {a : TA} (h : a σ H fun vs H1 => kForE K g t ⟨nx, rt, bk, ct⟩ σ vs H1) : tFor (iEnum K a) g t ⟨nx, rt, bk, ct⟩ σ H := h
theorem x_kForE {a : Addr} {xs : List V} (hx : SqL K H a xs) (Pv : Nat → L2.St → Hp → Prop) (h0 : Pv 0 σ H) (hl : ∀ i σ H, i ≤ xs.length → Pv i σ H → SqL K H a xs)
    (hs : ∀ (i : Nat) x σ H p H', xs[i]? = some x → Pv i σ H → H p = none → Same H H' → H' p = some (.tup [.int (i : Int), x]) → g (.ref p) σ H' fun σ2 H2 => t ⟨Pv (i + 1), rt, nx, Pv (i + 1)⟩ σ2 H2) (hd : ∀ σ H, Pv xs.length σ H → nx σ H) :
    kForE K g t ⟨nx, rt, bk, ct⟩ σ [.ref a] H := by
  refine ⟨a, xs, rfl, hx, fun i m σ H => m = xs.length - i ∧ i ≤ xs.length ∧ Pv i σ H, ⟨xs.length, by simp, Nat.zero_le _, h0⟩, ?_⟩
  rintro i m σ H ⟨rfl, hi, p⟩
  have q := hl i σ H hi p
  by_cases hlt : i < xs.length
  · refine .inr ⟨⟨xs, xs[i], q, by simp [hlt]⟩, Pv (i + 1), fun σ' H' p' => ⟨xs.length - (i + 1), by omega, rfl, hlt, p'⟩, fun v H' y => ?_⟩
    obtain ⟨T, x, rfl, hT, rfl, hx'⟩ := y
    exact hs i x σ H T _ (hx' xs q) p hT (Same.new hT) upd_same
  · have e : i = xs.length := by omega
    subst e
    exact .inl ⟨⟨xs, q, Nat.le_refl _⟩, hd σ H p⟩
end
end
section
variable {H : Hp} {Q : VK} {nx : L2.St → Hp → Prop} {v : V} {r : L2.St}
theorem x_v0 (h : Q v H) : tVar 0 (some v :: r) H Q := ⟨v, rfl, h⟩
theorem x_v1 {a0 : Option V} (h : Q v H) : tVar 1 (a0 :: some v :: r) H Q := ⟨v, rfl, h⟩
theorem x_v2 {a0 a1 : Option V} (h : Q v H) : tVar 2 (a0 :: a1 :: some v :: r) H Q := ⟨v, rfl, h⟩
theorem x_v3 {a0 a1 a2 : Option V} (h : Q v H) : tVar 3 (a0 :: a1 :: a2 :: some v :: r) H Q := ⟨v, rfl, h⟩
theorem x_v4 {a0 a1 a2 a3 : Option V} (h : Q v H) : tVar 4 (a0 :: a1 :: a2 :: a3 :: some v :: r) H Q := ⟨v, rfl, h⟩
theorem x_v5 {a0 a1 a2 a3 a4 : Option V} (h : Q v H) : tVar 5 (a0 :: a1 :: a2 :: a3 :: a4 :: some v :: r) H Q := ⟨v, rfl, h⟩
theorem x_v6 {a0 a1 a2 a3 a4 a5 : Option V} (h : Q v H) : tVar 6 (a0 :: a1 :: a2 :: a3 :: a4 :: a5 :: some v :: r) H Q := ⟨v, rfl, h⟩
theorem x_v7 {a0 a1 a2 a3 a4 a5 a6 : Option V} (h : Q v H) : tVar 7 (a0 :: a1 :: a2 :: a3 :: a4 :: a5 :: a6 :: some v :: r) H Q := ⟨v, rfl, h⟩
theorem x_v8 {a0 a1 a2 a3 a4 a5 a6 a7 : Option V} (h : Q v H) : tVar 8 (a0 :: a1 :: a2 :: a3 :: a4 :: a5 :: a6 :: a7 :: some v :: r) H Q := ⟨v, rfl, h⟩
theorem x_v9 {a0 a1 a2 a3 a4 a5 a6 a7 a8 : Option V} (h : Q v H) : tVar 9 (a0 :: a1 :: a2 :: a3 :: a4 :: a5 :: a6 :: a7 :: a8 :: some v :: r) H Q := ⟨v, rfl, h⟩
theorem x_v10 {a0 a1 a2 a3 a4 a5 a6 a7 a8 a9 : Option V} (h : Q v H) : tVar 10 (a0 :: a1 :: a2 :: a3 :: a4 :: a5 :: a6 :: a7 :: a8 :: a9 :: some v :: r) H Q := ⟨v, rfl, h⟩
theorem x_v11 {a0 a1 a2 a3 a4 a5 a6 a7 a8 a9 a10 : Option V} (h : Q v H) : tVar 11 (a0 :: a1 :: a2 :: a3 :: a4 :: a5 :: a6 :: a7 :: a8 :: a9 :: a10 :: some v :: r) H Q := ⟨v, rfl, h⟩
theorem x_v12 {a0 a1 a2 a3 a4 a5 a6 a7 a8 a9 a10 a11 : Option V} (h : Q v H) : tVar 12 (a0 :: a1 :: a2 :: a3 :: a4 :: a5 :: a6 :: a7 :: a8 :: a9 :: a10 :: a11 :: some v :: r) H Q := ⟨v, rfl, h⟩
theorem x_v13 {a0 a1 a2 a3 a4 a5 a6 a7 a8 a9 a10 a11 a12 : Option V} (h : Q v H) : tVar 13 (a0 :: a1 :: a2 :: a3 :: a4 :: a5 :: a6 :: a7 :: a8 :: a9 :: a10 :: a11 :: a12 :: some v :: r) H Q := ⟨v, rfl, h⟩
theorem x_v14 {a0 a1 a2 a3 a4 a5 a6 a7 a8 a9 a10 a11 a12 a13 : Option V} (h : Q v H) : tVar 14 (a0 :: a1 :: a2 :: a3 :: a4 :: a5 :: a6 :: a7 :: a8 :: a9 :: a10 :: a11 :: a12 :: a13 :: some v :: r) H Q := ⟨v, rfl, h⟩
theorem x_v15 {a0 a1 a2 a3 a4 a5 a6 a7 a8 a9 a10 a11 a12 a13 a14 : Option V} (h : Q v H) : tVar 15 (a0 :: a1 :: a2 :: a3 :: a4 :: a5 :: a6 :: a7 :: a8 :: a9 :: a10 :: a11 :: a12 :: a13 :: a14 :: some v :: r) H Q := ⟨v, rfl, h⟩
theorem x_v16 {a0 a1 a2 a3 a4 a5 a6 a7 a8 a9 a10 a11 a12 a13 a14 a15 : Option V} (h : Q v H) : tVar 16 (a0 :: a1 :: a2 :: a3 :: a4 :: a5 :: a6 :: a7 :: a8 :: a9 :: a10 :: a11 :: a12 :: a13 :: a14 :: a15 :: some v :: r) H Q := ⟨v, rfl, h⟩
theorem x_v17 {a0 a1 a2 a3 a4 a5 a6 a7 a8 a9 a10 a11 a12 a13 a14 a15 a16 : Option V} (h : Q v H) : tVar 17 (a0 :: a1 :: a2 :: a3 :: a4 :: a5 :: a6 :: a7 :: a8 :: a9 :: a10 :: a11 :: a12 :: a13 :: a14 :: a15 :: a16 :: some v :: r) H Q := ⟨v, rfl, h⟩
theorem x_v18 {a0 a1 a2 a3 a4 a5 a6 a7 a8 a9 a10 a11 a12 a13 a14 a15 a16 a17 : Option V} (h : Q v H) : tVar 18 (a0 :: a1 :: a2 :: a3 :: a4 :: a5 :: a6 :: a7 :: a8 :: a9 :: a10 :: a11 :: a12 :: a13 :: a14 :: a15 :: a16 :: a17 :: some v :: r) H Q := ⟨v, rfl, h⟩
theorem x_v19 {a0 a1 a2 a3 a4 a5 a6 a7 a8 a9 a10 a11 a12 a13 a14 a15 a16 a17 a18 : Option V} (h : Q v H) : tVar 19 (a0 :: a1 :: a2 :: a3 :: a4 :: a5 :: a6 :: a7 :: a8 :: a9 :: a10 :: a11 :: a12 :: a13 :: a14 :: a15 :: a16 :: a17 :: a18 :: some v :: r) H Q := ⟨v, rfl, h⟩
theorem x_v20 {a0 a1 a2 a3 a4 a5 a6 a7 a8 a9 a10 a11 a12 a13 a14 a15 a16 a17 a18 a19 : Option V} (h : Q v H) : tVar 20 (a0 :: a1 :: a2 :: a3 :: a4 :: a5 :: a6 :: a7 :: a8 :: a9 :: a10 :: a11 :: a12 :: a13 :: a14 :: a15 :: a16 :: a17 :: a18 :: a19 :: some v :: r) H Q := ⟨v, rfl, h⟩
theorem x_v21 {a0 a1 a2 a3 a4 a5 a6 a7 a8 a9 a10 a11 a12 a13 a14 a15 a16 a17 a18 a19 a20 : Option V} (h : Q v H) : tVar 21 (a0 :: a1 :: a2 :: a3 :: a4 :: a5 :: a6 :: a7 :: a8 :: a9 :: a10 :: a11 :: a12 :: a13 :: a14 :: a15 :: a16 :: a17 :: a18 :: a19 :: a20 :: some v :: r) H Q := ⟨v, rfl, h⟩
theorem x_v22 {a0 a1 a2 a3 a4 a5 a6 a7 a8 a9 a10 a11 a12 a13 a14 a15 a16 a17 a18 a19 a20 a21 : Option V} (h : Q v H) : tVar 22 (a0 :: a1 :: a2 :: a3 :: a4 :: a5 :: a6 :: a7 :: a8 :: a9 :: a10 :: a11 :: a12 :: a13 :: a14 :: a15 :: a16 :: a17 :: a18 :: a19 :: a20 :: a21 :: some v :: r) H Q := ⟨v, rfl, h⟩
theorem x_v23 {a0 a1 a2 a3 a4 a5 a6 a7 a8 a9 a10 a11 a12 a13 a14 a15 a16 a17 a18 a19 a20 a21 a22 : Option V} (h : Q v H) : tVar 23 (a0 :: a1 :: a2 :: a3 :: a4 :: a5 :: a6 :: a7 :: a8 :: a9 :: a10 :: a11 :: a12 :: a13 :: a14 :: a15 :: a16 :: a17 :: a18 :: a19 :: a20 :: a21 :: a22 :: some v :: r) H Q := ⟨v, rfl, h⟩
theorem x_v24 {a0 a1 a2 a3 a4 a5 a6 a7 a8 a9 a10 a11 a12 a13 a14 a15 a16 a17 a18 a19 a20 a21 a22 a23 : Option V} (h : Q v H) : tVar 24 (a0 :: a1 :: a2 :: a3 :: a4 :: a5 :: a6 :: a7 :: a8 :: a9 :: a10 :: a11 :: a12 :: a13 :: a14 :: a15 :: a16 :: a17 :: a18 :: a19 :: a20 :: a21 :: a22 :: a23 :: some v :: r) H Q := ⟨v, rfl, h⟩
theorem x_v25 {a0 a1 a2 a3 a4 a5 a6 a7 a8 a9 a10 a11 a12 a13 a14 a15 a16 a17 a18 a19 a20 a21 a22 a23 a24 : Option V} (h : Q v H) : tVar 25 (a0 :: a1 :: a2 :: a3 :: a4 :: a5 :: a6 :: a7 :: a8 :: a9 :: a10 :: a11 :: a12 :: a13 :: a14 :: a15 :: a16 :: a17 :: a18 :: a19 :: a20 :: a21 :: a22 :: a23 :: a24 :: some v :: r) H Q := ⟨v, rfl, h⟩
theorem x_g0 {a0 : Option V} (h : nx (some v :: r) H) : gName 0 v (a0 :: r) H nx := h
theorem x_g1 {a0 a1 : Option V} (h : nx (a0 :: some v :: r) H) : gName 1 v (a0 :: a1 :: r) H nx := h
theorem x_g2 {a0 a1 a2 : Option V} (h : nx (a0 :: a1 :: some v :: r) H) : gName 2 v (a0 :: a1 :: a2 :: r) H nx := h
theorem x_g3 {a0 a1 a2 a3 : Option V} (h : nx (a0 :: a1 :: a2 :: some v :: r) H) : gName 3 v (a0 :: a1 :: a2 :: a3 :: r) H nx := h
theorem x_g4 {a0 a1 a2 a3 a4 : Option V} (h : nx (a0 :: a1 :: a2 :: a3 :: some v :: r) H) : gName 4 v (a0 :: a1 :: a2 :: a3 :: a4 :: r) H nx := h
theorem x_g5 {a0 a1 a2 a3 a4 a5 : Option V} (h : nx (a0 :: a1 :: a2 :: a3 :: a4 :: some v :: r) H) : gName 5 v (a0 :: a1 :: a2 :: a3 :: a4 :: a5 :: r) H nx := h
theorem x_g6 {a0 a1 a2 a3 a4 a5 a6 : Option V} (h : nx (a0 :: a1 :: a2 :: a3 :: a4 :: a5 :: some v :: r) H) : gName 6 v (a0 :: a1 :: a2 :: a3 :: a4 :: a5 :: a6 :: r) H nx := h
theorem x_g7 {a0 a1 a2 a3 a4 a5 a6 a7 : Option V} (h : nx (a0 :: a1 :: a2 :: a3 :: a4 :: a5 :: a6 :: some v :: r) H) : gName 7 v (a0 :: a1 :: a2 :: a3 :: a4 :: a5 :: a6 :: a7 :: r) H nx := h
theorem x_g8 {a0 a1 a2 a3 a4 a5 a6 a7 a8 : Option V} (h : nx (a0 :: a1 :: a2 :: a3 :: a4 :: a5 :: a6 :: a7 :: some v :: r) H) : gName 8 v (a0 :: a1 :: a2 :: a3 :: a4 :: a5 :: a6 :: a7 :: a8 :: r) H nx := h
theorem x_g9 {a0 a1 a2 a3 a4 a5 a6 a7 a8 a9 : Option V} (h : nx (a0 :: a1 :: a2 :: a3 :: a4 :: a5 :: a6 :: a7 :: a8 :: some v :: r) H) : gName 9 v (a0 :: a1 :: a2 :: a3 :: a4 :: a5 :: a6 :: a7 :: a8 :: a9 :: r) H nx := h
theorem x_g10 {a0 a1 a2 a3 a4 a5 a6 a7 a8 a9 a10 : Option V} (h : nx (a0 :: a1 :: a2 :: a3 :: a4 :: a5 :: a6 :: a7 :: a8 :: a9 :: some v :: r) H) : gName 10 v (a0 :: a1 :: a2 :: a3 :: a4 :: a5 :: a6 :: a7 :: a8 :: a9 :: a10 :: r) H nx := h
theorem x_g11 {a0 a1 a2 a3 a4 a5 a6 a7 a8 a9 a10 a11 : Option V} (h : nx (a0 :: a1 :: a2 :: a3 :: a4 :: a5 :: a6 :: a7 :: a8 :: a9 :: a10 :: some v :: r) H) : gName 11 v (a0 :: a1 :: a2 :: a3 :: a4 :: a5 :: a6 :: a7 :: a8 :: a9 :: a10 :: a11 :: r) H nx := h
theorem x_g12 {a0 a1 a2 a3 a4 a5 a6 a7 a8 a9 a10 a11 a12 : Option V} (h : nx (a0 :: a1 :: a2 :: a3 :: a4 :: a5 :: a6 :: a7 :: a8 :: a9 :: a10 :: a11 :: some v :: r) H) : gName 12 v (a0 :: a1 :: a2 :: a3 :: a4 :: a5 :: a6 :: a7 :: a8 :: a9 :: a10 :: a11 :: a12 :: r) H nx := h
theorem x_g13 {a0 a1 a2 a3 a4 a5 a6 a7 a8 a9 a10 a11 a12 a13 : Option V} (h : nx (a0 :: a1 :: a2 :: a3 :: a4 :: a5 :: a6 :: a7 :: a8 :: a9 :: a10 :: a11 :: a12 :: some v :: r) H) : gName 13 v (a0 :: a1 :: a2 :: a3 :: a4 :: a5 :: a6 :: a7 :: a8 :: a9 :: a10 :: a11 :: a12 :: a13 :: r) H nx := h
theorem x_g14 {a0 a1 a2 a3 a4 a5 a6 a7 a8 a9 a10 a11 a12 a13 a14 : Option V} (h : nx (a0 :: a1 :: a2 :: a3 :: a4 :: a5 :: a6 :: a7 :: a8 :: a9 :: a10 :: a11 :: a12 :: a13 :: some v :: r) H) : gName 14 v (a0 :: a1 :: a2 :: a3 :: a4 :: a5 :: a6 :: a7 :: a8 :: a9 :: a10 :: a11 :: a12 :: a13 :: a14 :: r) H nx := h
theorem x_g15 {a0 a1 a2 a3 a4 a5 a6 a7 a8 a9 a10 a11 a12 a13 a14 a15 : Option V} (h : nx (a0 :: a1 :: a2 :: a3 :: a4 :: a5 :: a6 :: a7 :: a8 :: a9 :: a10 :: a11 :: a12 :: a13 :: a14 :: some v :: r) H) : gName 15 v (a0 :: a1 :: a2 :: a3 :: a4 :: a5 :: a6 :: a7 :: a8 :: a9 :: a10 :: a11 :: a12 :: a13 :: a14 :: a15 :: r) H nx := h
theorem x_g16 {a0 a1 a2 a3 a4 a5 a6 a7 a8 a9 a10 a11 a12 a13 a14 a15 a16 : Option V} (h : nx (a0 :: a1 :: a2 :: a3 :: a4 :: a5 :: a6 :: a7 :: a8 :: a9 :: a10 :: a11 :: a12 :: a13 :: a14 :: a15 :: some v :: r) H) : gName 16 v (a0 :: a1 :: a2 :: a3 :: a4 :: a5 :: a6 :: a7 :: a8 :: a9 :: a10 :: a11 :: a12 :: a13 :: a14 :: a15 :: a16 :: r) H nx := h
theorem x_g17 {a0 a1 a2 a3 a4 a5 a6 a7 a8 a9 a10 a11 a12 a13 a14 a15 a16 a17 : Option V} (h : nx (a0 :: a1 :: a2 :: a3 :: a4 :: a5 :: a6 :: a7 :: a8 :: a9 :: a10 :: a11 :: a12 :: a13 :: a14 :: a15 :: a16 :: some v :: r) H) : gName 17 v (a0 :: a1 :: a2 :: a3 :: a4 :: a5 :: a6 :: a7 :: a8 :: a9 :: a10 :: a11 :: a12 :: a13 :: a14 :: a15 :: a16 :: a17 :: r) H nx := h
theorem x_g18 {a0 a1 a2 a3 a4 a5 a6 a7 a8 a9 a10 a11 a12 a13 a14 a15 a16 a17 a18 : Option V} (h : nx (a0 :: a1 :: a2 :: a3 :: a4 :: a5 :: a6 :: a7 :: a8 :: a9 :: a10 :: a11 :: a12 :: a13 :: a14 :: a15 :: a16 :: a17 :: some v :: r) H) : gName 18 v (a0 :: a1 :: a2 :: a3 :: a4 :: a5 :: a6 :: a7 :: a8 :: a9 :: a10 :: a11 :: a12 :: a13 :: a14 :: a15 :: a16 :: a17 :: a18 :: r) H nx := h
theorem x_g19 {a0 a1 a2 a3 a4 a5 a6 a7 a8 a9 a10 a11 a12 a13 a14 a15 a16 a17 a18 a19 : Option V} (h : nx (a0 :: a1 :: a2 :: a3 :: a4 :: a5 :: a6 :: a7 :: a8 :: a9 :: a10 :: a11 :: a12 :: a13 :: a14 :: a15 :: a16 :: a17 :: a18 :: some v :: r) H) : gName 19 v (a0 :: a1 :: a2 :: a3 :: a4 :: a5 :: a6 :: a7 :: a8 :: a9 :: a10 :: a11 :: a12 :: a13 :: a14 :: a15 :: a16 :: a17 :: a18 :: a19 :: r) H nx := h
theorem x_g20 {a0 a1 a2 a3 a4 a5 a6 a7 a8 a9 a10 a11 a12 a13 a14 a15 a16 a17 a18 a19 a20 : Option V} (h : nx (a0 :: a1 :: a2 :: a3 :: a4 :: a5 :: a6 :: a7 :: a8 :: a9 :: a10 :: a11 :: a12 :: a13 :: a14 :: a15 :: a16 :: a17 :: a18 :: a19 :: some v :: r) H) : gName 20 v (a0 :: a1 :: a2 :: a3 :: a4 :: a5 :: a6 :: a7 :: a8 :: a9 :: a10 :: a11 :: a12 :: a13 :: a14 :: a15 :: a16 :: a17 :: a18 :: a19 :: a20 :: r) H nx := h
theorem x_g21 {a0 a1 a2 a3 a4 a5 a6 a7 a8 a9 a10 a11 a12 a13 a14 a15 a16 a17 a18 a19 a20 a21 : Option V} (h : nx (a0 :: a1 :: a2 :: a3 :: a4 :: a5 :: a6 :: a7 :: a8 :: a9 :: a10 :: a11 :: a12 :: a13 :: a14 :: a15 :: a16 :: a17 :: a18 :: a19 :: a20 :: some v :: r) H) : gName 21 v (a0 :: a1 :: a2 :: a3 :: a4 :: a5 :: a6 :: a7 :: a8 :: a9 :: a10 :: a11 :: a12 :: a13 :: a14 :: a15 :: a16 :: a17 :: a18 :: a19 :: a20 :: a21 :: r) H nx := h
theorem x_g22 {a0 a1 a2 a3 a4 a5 a6 a7 a8 a9 a10 a11 a12 a13 a14 a15 a16 a17 a18 a19 a20 a21 a22 : Option V} (h : nx (a0 :: a1 :: a2 :: a3 :: a4 :: a5 :: a6 :: a7 :: a8 :: a9 :: a10 :: a11 :: a12 :: a13 :: a14 :: a15 :: a16 :: a17 :: a18 :: a19 :: a20 :: a21 :: some v :: r) H) : gName 22 v (a0 :: a1 :: a2 :: a3 :: a4 :: a5 :: a6 :: a7 :: a8 :: a9 :: a10 :: a11 :: a12 :: a13 :: a14 :: a15 :: a16 :: a17 :: a18 :: a19 :: a20 :: a21 :: a22 :: r) H nx := h
theorem x_g23 {a0 a1 a2 a3 a4 a5 a6 a7 a8 a9 a10 a11 a12 a13 a14 a15 a16 a17 a18 a19 a20 a21 a22 a23 : Option V} (h : nx (a0 :: a1 :: a2 :: a3 :: a4 :: a5 :: a6 :: a7 :: a8 :: a9 :: a10 :: a11 :: a12 :: a13 :: a14 :: a15 :: a16 :: a17 :: a18 :: a19 :: a20 :: a21 :: a22 :: some v :: r) H) : gName 23 v (a0 :: a1 :: a2 :: a3 :: a4 :: a5 :: a6 :: a7 :: a8 :: a9 :: a10 :: a11 :: a12 :: a13 :: a14 :: a15 :: a16 :: a17 :: a18 :: a19 :: a20 :: a21 :: a22 :: a23 :: r) H nx := h
theorem x_g24 {a0 a1 a2 a3 a4 a5 a6 a7 a8 a9 a10 a11 a12 a13 a14 a15 a16 a17 a18 a19 a20 a21 a22 a23 a24 : Option V} (h : nx (a0 :: a1 :: a2 :: a3 :: a4 :: a5 :: a6 :: a7 :: a8 :: a9 :: a10 :: a11 :: a12 :: a13 :: a14 :: a15 :: a16 :: a17 :: a18 :: a19 :: a20 :: a21 :: a22 :: a23 :: some v :: r) H) : gName 24 v (a0 :: a1 :: a2 :: a3 :: a4 :: a5 :: a6 :: a7 :: a8 :: a9 :: a10 :: a11 :: a12 :: a13 :: a14 :: a15 :: a16 :: a17 :: a18 :: a19 :: a20 :: a21 :: a22 :: a23 :: a24 :: r) H nx := h
theorem x_g25 {a0 a1 a2 a3 a4 a5 a6 a7 a8 a9 a10 a11 a12 a13 a14 a15 a16 a17 a18 a19 a20 a21 a22 a23 a24 a25 : Option V} (h : nx (a0 :: a1 :: a2 :: a3 :: a4 :: a5 :: a6 :: a7 :: a8 :: a9 :: a10 :: a11 :: a12 :: a13 :: a14 :: a15 :: a16 :: a17 :: a18 :: a19 :: a20 :: a21 :: a22 :: a23 :: a24 :: some v :: r) H) : gName 25 v (a0 :: a1 :: a2 :: a3 :: a4 :: a5 :: a6 :: a7 :: a8 :: a9 :: a10 :: a11 :: a12 :: a13 :: a14 :: a15 :: a16 :: a17 :: a18 :: a19 :: a20 :: a21 :: a22 :: a23 :: a24 :: a25 :: r) H nx := h
end
/-! ### an instance's attributes: names with values, in their order -/
theorem fl_get : ∀ {N : List Str} {vs : List V} {i : Nat} {x : Str} {v : V}, N.Nodup → N[i]? = some x → vs[i]? = some v → (N.zip vs).lookup x = some v
  | [], _, _, _, _, _, h, _ => by simp at h
  | _ :: _, [], _, _, _, _, _, h => by simp at h
  | n :: N, u :: vs, 0, x, v, nd, h1, h2 => by
    have e1 : n = x := Option.some.inj h1
    have e2 : u = v := Option.some.inj h2
    subst e1 e2
    simp [List.lookup]
  | n :: N, u :: vs, i + 1, x, v, nd, h1, h2 => by
    obtain ⟨m, nd'⟩ := List.nodup_cons.mp nd
    have h1' : N[i]? = some x := h1
    have ne : (x == n) = false := beq_eq_false_iff_ne.mpr fun e => m (e ▸ List.mem_of_getElem? h1')
    show (match x == n with | true => some u | false => (N.zip vs).lookup x) = some v
    rw [ne]
    exact fl_get nd' h1' h2
theorem fl_put : ∀ {N : List Str} {vs : List V} {i : Nat} {x : Str} {v : V}, N.Nodup → N[i]? = some x → i < vs.length → putF x v (N.zip vs) = N.zip (vs.set i v)
  | [], _, _, _, _, _, h, _ => by simp at h
  | _ :: _, [], _, _, _, _, _, h => by simp at h
  | n :: N, u :: vs, 0, x, v, nd, h1, _ => by
    have e1 : n = x := Option.some.inj h1
    subst e1
    show (if n = n then (n, v) :: N.zip vs else _) = _
    rw [if_pos rfl]
    rfl
  | n :: N, u :: vs, i + 1, x, v, nd, h1, h2 => by
    obtain ⟨m, nd'⟩ := List.nodup_cons.mp nd
    have h1' : N[i]? = some x := h1
    have ne : ¬ n = x := fun e => m (e ▸ List.mem_of_getElem? h1')
    show (if n = x then (n, v) :: N.zip vs else (n, u) :: putF x v (N.zip vs)) = _
    rw [if_neg ne, fl_put nd' h1' (Nat.lt_of_succ_lt_succ h2)]
    rfl
theorem fl_no : ∀ {N : List Str} {vs : List V} {x : Str}, ¬ x ∈ N → (N.zip vs).lookup x = none
  | [], _, _, _ => rfl
  | _ :: _, [], _, _ => rfl
  | n :: N, u :: vs, x, h => by
    have ne : (x == n) = false := beq_eq_false_iff_ne.mpr fun e => h (by rw [e]; exact List.mem_cons_self)
    show (match x == n with | true => some u | false => (N.zip vs).lookup x) = none
    rw [ne]
    exact fl_no fun m => h (List.mem_cons_of_mem _ m)
theorem fl_new : ∀ {N : List Str} {vs : List V} {x : Str} {v : V}, N.length = vs.length → ¬ x ∈ N → putF x v (N.zip vs) = (N ++ [x]).zip (vs ++ [v])
  | [], [], _, _, _, _ => rfl
  | n :: N, u :: vs, x, v, hl, h => by
    have ne : ¬ n = x := fun e => h (by rw [e]; exact List.mem_cons_self)
    show (if n = x then (n, v) :: N.zip vs else (n, u) :: putF x v (N.zip vs)) = _
    rw [if_neg ne, fl_new (Nat.succ.inj hl) fun m => h (List.mem_cons_of_mem _ m)]
    rfl
theorem fl_len {N : List Str} {vs : List V} (h : N.length ≤ 900) : (N.zip vs).length < 1000 := by
  rw [List.length_zip]
  omega
/-- a class of the text: what is asked of its own attributes -/
structure ClsT (K : PySem.W.Frag) (x : Str) (N : List Str) : Prop where
  cl : Cls K (He.ga K x)
  no : ∀ f ∈ N, NoAttr K (He.ga K x) f
theorem ClsT.at {K : PySem.W.Frag} {x : Str} {N : List Str} (T : ClsT K x N) {i : Nat} {f : Str} (h : N[i]? = some f) : NoAttr K (He.ga K x) f := T.no f (List.mem_of_getElem? h)
section
variable {K : PySem.W.Frag} {σ : L2.St} {H : Hp} {Q : VK} {v y z : V} {te : TE} {nx bk ct : L2.St → Hp → Prop} {rt : VK} {x f : Str} {N : List Str} {vs : List V} {p C dx : Addr}
/-- a field read; stored (the i-th of N); stored for the first time -/
theorem x_get (i : Nat) (a : H p = some (.ins C dx (N.zip vs))) (c : Cls K C) (n : NoAttr K C f) (nd : N.Nodup) (h : Q v H) (hi : N[i]? = some f := by rfl) (hv : vs[i]? = some v := by rfl) : kFld K f Q (.ref p) H := x_kFld a c n (fl_get nd hi hv) h
theorem x_put (i : Nat) (a : H p = some (.ins C dx (N.zip vs))) (c : Cls K C) (n : NoAttr K C f) (nd : N.Nodup) (h : ∀ H', But p H H' → H' p = some (.ins C dx (N.zip (vs.set i y))) → nx σ H') (hi : N[i]? = some f := by rfl) (hl : i < vs.length := by simp) (hN : N.length ≤ 900 := by decide) : kSFld K f nx σ y (.ref p) H :=
  x_kSFld a c n (fl_len hN) fun H' b e => h H' b (by rw [← fl_put nd hi hl]; exact e)
theorem x_put0 (a : H p = some (.ins C dx (N.zip vs))) (c : Cls K C) (n : NoAttr K C f) (h : ∀ H', But p H H' → H' p = some (.ins C dx ((N ++ [f]).zip (vs ++ [y]))) → nx σ H') (hx : ¬ f ∈ N := by decide +kernel) (hl : N.length = vs.length := by rfl) (hN : N.length ≤ 900 := by decide) : kSFld K f nx σ y (.ref p) H :=
  x_kSFld a c n (fl_len hN) fun H' b e => h H' b (by rw [← fl_new hl hx]; exact e)
theorem x_faug {rd : V → V → Hp → VK → Prop} (j i : Nat) (a : H p = some (.ins C dx (N.zip vs))) (c : Cls K C) (n : NoAttr K C f) (nd : N.Nodup) (h : te σ H fun y H2 => rd v y H2 fun z H3 => kFA K f p C nx σ z H3) (hj : σ[j]? = some (some (.ref p)) := by rfl) (hi : N[i]? = some f := by rfl) (hv : vs[i]? = some v := by rfl) : sFldAug K (tVar j) te rd f ⟨nx, rt, bk, ct⟩ σ H := x_fldAug hj a c n (fl_get nd hi hv) h
theorem x_kfa (i : Nat) (a : H p = some (.ins C dx (N.zip vs))) (nd : N.Nodup) (h : ∀ H', But p H H' → H' p = some (.ins C dx (N.zip (vs.set i z))) → nx σ H') (hi : N[i]? = some f := by rfl) (hl : i < vs.length := by simp) (hN : N.length ≤ 900 := by decide) : kFA K f p C nx σ z H :=
  x_kFA a (fl_len hN) fun H' b e => h H' b (by rw [← fl_put nd hi hl]; exact e)
end
/-- a body's reading keeps the promise -/
def Reads (N : List Str) (sp : Sp) (t : TS) : Prop := ∀ vs H Q E, sp vs H Q E → t ⟨fun _ H' => Q .non H', Q, fun _ _ => False, fun _ _ => False⟩ (start N vs) H
/-! L1: the league program: fractions, what a team has of its games. -/
open PySem PySem.Spec PyProof.Rows L2
open Evl (tCut)
/-! ### the stepper -/
local macro_rules | `(tactic| walk_at "one") => `(tactic| first
  | with_reducible refine x_c ?_
  | with_reducible refine x_v0 ?_
  | with_reducible refine x_v1 ?_
  | with_reducible refine x_v2 ?_
  | with_reducible refine x_v3 ?_
  | with_reducible refine x_v4 ?_
  | with_reducible refine x_v5 ?_
  | with_reducible refine x_v6 ?_
  | with_reducible refine x_v7 ?_
  | with_reducible refine x_v8 ?_
  | with_reducible refine x_v9 ?_
  | with_reducible refine x_v10 ?_
  | with_reducible refine x_v11 ?_
  | with_reducible refine x_v12 ?_
  | with_reducible refine x_v13 ?_
  | with_reducible refine x_v14 ?_
  | with_reducible refine x_v15 ?_
  | with_reducible refine x_v16 ?_
  | with_reducible refine x_v17 ?_
  | with_reducible refine x_v18 ?_
  | with_reducible refine x_v19 ?_
  | with_reducible refine x_v20 ?_
  | with_reducible refine x_v21 ?_
  | with_reducible refine x_v22 ?_
  | with_reducible refine x_v23 ?_
  | with_reducible refine x_v24 ?_
  | with_reducible refine x_v25 ?_
  | with_reducible refine x_op ?_
  | with_reducible refine x_cons ?_
  | with_reducible refine x_nil ?_
  | with_reducible refine x_g0 ?_
  | with_reducible refine x_g1 ?_
  | with_reducible refine x_g2 ?_
  | with_reducible refine x_g3 ?_
  | with_reducible refine x_g4 ?_
  | with_reducible refine x_g5 ?_
  | with_reducible refine x_g6 ?_
  | with_reducible refine x_g7 ?_
  | with_reducible refine x_g8 ?_
  | with_reducible refine x_g9 ?_
  | with_reducible refine x_g10 ?_
  | with_reducible refine x_g11 ?_
  | with_reducible refine x_g12 ?_
  | with_reducible refine x_g13 ?_
  | with_reducible refine x_g14 ?_
  | with_reducible refine x_g15 ?_
  | with_reducible refine x_g16 ?_
  | with_reducible refine x_g17 ?_
  | with_reducible refine x_g18 ?_
  | with_reducible refine x_g19 ?_
  | with_reducible refine x_g20 ?_
  | with_reducible refine x_g21 ?_
  | with_reducible refine x_g22 ?_
  | with_reducible refine x_g23 ?_
  | with_reducible refine x_g24 ?_
  | with_reducible refine x_g25 ?_
  | with_reducible refine x_seq ?_
  | with_reducible refine x_asg ?_
  | with_reducible refine x_ret ?_
  | with_reducible refine x_retN ?_
  | with_reducible refine x_next ?_
  | with_reducible refine x_brk ?_
  | with_reducible refine x_cont ?_
  | with_reducible refine x_drop ?_
  | with_reducible refine x_if ?_
  | with_reducible refine x_par ?_
  | with_reducible refine x_kPar rfl ?_
  | with_reducible refine x_bl ?_
  | with_reducible refine x_test ?_
  | with_reducible refine x_B ?_
  | with_reducible refine x_and ?_
  | with_reducible refine x_or ?_
  | with_reducible refine x_not ?_
  | with_reducible refine x_andV ?_
  | with_reducible refine x_orV ?_
  | with_reducible refine x_kAndV ?_
  | with_reducible refine x_kOrV ?_
  | with_reducible refine x_notV ?_
  | with_reducible refine x_kNotV ?_
  | with_reducible refine x_ifE ?_
  | with_reducible refine x_un ?_
  | with_reducible refine x_cb ?_
  | with_reducible refine x_call ?_
  | with_reducible refine x_tup ?_
  | with_reducible refine x_lst ?_
  | with_reducible refine x_nAdd ?_
  | with_reducible refine x_nSub ?_
  | with_reducible refine x_nLt ?_
  | with_reducible refine x_nLe ?_
  | with_reducible refine x_nGt ?_
  | with_reducible refine x_nGe ?_
  | with_reducible refine x_eqI ?_
  | with_reducible refine x_neI ?_
  | with_reducible refine x_eqS ?_
  | with_reducible refine x_neS ?_
  | with_reducible refine x_eqB ?_
  | with_reducible refine x_isN ?_
  | with_reducible refine x_notN ?_
  | with_reducible refine x_neg ?_
  | with_reducible refine x_abs ?_
  | with_reducible refine x_int ?_
  | with_reducible refine x_intB ?_
  | with_reducible refine x_chain ?_
  | with_reducible refine x_kChain ?_
  | with_reducible refine x_sl ?_
  | with_reducible refine x_noPart ?_
  | with_reducible refine x_part ?_
  | with_reducible refine x_kPart ?_
  | with_reducible refine x_gnil ?_
  | with_reducible refine x_gcons ?_
  | with_reducible refine x_gsub ?_
  | with_reducible refine x_gtail ?_
  | with_reducible refine x_bm ?_
  | with_reducible refine x_bm0 ?_
  | with_reducible refine x_fld ?_
  | with_reducible refine x_sFld ?_
  | with_reducible refine x_rAdd ?_
  | with_reducible refine x_ipI ?_
  | with_reducible refine x_augS ?_
  | with_reducible refine x_dget ?_
  | with_reducible refine x_din ?_
  | with_reducible refine x_dnotin ?_
  | with_reducible refine x_dput ?_
  | with_reducible refine x_meth ?_
  | with_reducible refine x_make ?_
  | with_reducible refine x_forL ?_
  | with_reducible refine x_forT ?_
  | with_reducible refine x_forR ?_
  | with_reducible refine x_forE ?_
  | with_reducible refine x_turn ?_
  | with_reducible refine iteT ?_
  | with_reducible refine iteF ?_
  | ((with_reducible apply x_ixL); (· walk_at "rd"); (· walk_at "at"))
  | ((with_reducible apply x_ixT); (· walk_at "rd"); (· walk_at "at"))
  | ((with_reducible apply x_gIxLn); (· first | decide | omega); (· walk_at "rd"); (· first | with_reducible assumption | rfl))
  | ((with_reducible apply x_lenL); (· walk_at "rd"))
  | ((with_reducible apply x_tyL); (· walk_at "rd"))
  | ((with_reducible apply x_nMod); (· first | decide | omega))
  | ((with_reducible apply x_nDiv); (· walk_at "div"))
  | ((with_reducible apply x_nMul); (· walk_at "mul"))
  | ((with_reducible apply x_nPow); (· exact ⟨by decide, by decide, by decide⟩))
  | walk_at "fld")
local macro_rules | `(tactic| walk_at "fld") => `(tactic| fail)
local macro_rules | `(tactic| walk_at "div") => `(tactic| first | with_reducible assumption | exact ⟨by decide, by decide⟩)
local macro_rules | `(tactic| walk_at "at") => `(tactic| first | with_reducible assumption | rfl | with_reducible exact atI_nat (by with_reducible assumption))
local macro_rules | `(tactic| walk_at "mul") => `(tactic| first | exact Or.inl ⟨by omega, by omega⟩ | exact Or.inr ⟨by omega, by omega⟩)
local macro_rules | `(tactic| walk_at "st") => `(tactic| (repeat walk_at "one"))
/-- a list, a tuple to be read: as it is known, or as it was ahead -/
local macro_rules | `(tactic| walk_at "rd") => `(tactic| first | with_reducible assumption | with_reducible exact SqL.of (by with_reducible assumption) | with_reducible exact SqT.of (by with_reducible assumption) | with_reducible exact Or.inl (by with_reducible assumption) | ((with_reducible apply Same.seq); (· with_reducible assumption); walk_at "rd") | ((with_reducible apply Same.sqT); (· with_reducible assumption); walk_at "rd") | ((with_reducible apply Same.at); (· with_reducible assumption); walk_at "rd"))
local macro_rules | `(tactic| walk_at "len") => `(tactic| first | exact Nat.le_of_ble_eq_true rfl | decide | (simp; done) | (simp; omega))
local macro_rules | `(tactic| walk_at "fr") => `(tactic| first | with_reducible assumption | (refine Same.none (by with_reducible assumption) ?_; walk_at "fr") | (refine But.none (by with_reducible assumption) (by with_reducible assumption) ?_; walk_at "fr"))
local macro_rules | `(tactic| walk_at "kp") => `(tactic| first | exact Kept.refl _ _ | (refine Kept.same (by with_reducible assumption) ?_; walk_at "kp") | (refine Kept.but (by with_reducible assumption) (by simp; done) ?_; walk_at "kp") | (refine Kept.step (by with_reducible assumption) (by simp; done) ?_; walk_at "kp"))
local macro_rules | `(tactic| walk_at "sm") => `(tactic| first | with_reducible assumption | exact Same.refl _ | (refine Same.trans ?_ (by assumption); walk_at "sm"))
/-! ### the greatest common part -/
def spCommon : Sp := fun vs H Q _ => ∃ a b : Nat, vs = [.int (a : Int), .int (b : Int)] ∧ Q (.int (Nat.gcd a b : Nat)) H
def N_common_part : List Str := ["one", "other"]
def t_common_part (K : PySem.W.Frag) : TS := (tSeq (tWhile (tTest (tOp nGt (tVar 1) (tC (.int 0))))
  (tPar 0 1 (tCons (tVar 1) (tCons (tOp nMod (tVar 0) (tVar 1)) tNil))))
  (tRet (tVar 0)))
theorem rd_common (K : PySem.W.Frag) : Reads N_common_part spCommon (t_common_part K) := by
  rintro vs H Q E ⟨a, b, rfl, k⟩
  show t_common_part K _ [some (.int (a : Int)), some (.int (b : Int))] H
  unfold t_common_part
  walk_at "st"
  refine x_while (fun m σ H' => ∃ a' b' : Nat, σ = [some (.int (a' : Int)), some (.int (b' : Int))] ∧ H' = H ∧ Nat.gcd a' b' = Nat.gcd a b ∧ m = b') b ⟨a, b, rfl, rfl, rfl, rfl⟩ ?_
  rintro m σ H' ⟨a', b', rfl, rfl, hg, rfl⟩
  walk_at "st"
  refine x_dec (fun h => ?_) (fun h => ?_)
  · walk_at "st"
    refine ⟨a' % m, Nat.mod_lt _ (by omega), m, a' % m, rfl, rfl, ?_, rfl⟩
    rw [← hg, Nat.gcd_comm a' m, Nat.gcd_rec m a', Nat.gcd_comm]
  · walk_at "st"
    have e : m = 0 := by omega
    subst e
    rw [Nat.gcd_zero_right] at hg
    rw [hg]
    exact k
/-! ### lowest terms -/
def lowest (n : Int) (p : Nat) : Int × Int := (n / (Nat.gcd n.natAbs p : Nat), (p : Int) / (Nat.gcd n.natAbs p : Nat))
def frV (f : Int × Int) : List V := [.int f.1, .int f.2]
def spLowest : Sp := fun vs H Q _ => ∃ (n : Int) (p : Nat), vs = [.int n, .int (p : Int)] ∧ 0 < p ∧ p < 2 ^ 64 ∧ ∀ q H', Same H H' → H' q = some (.tup (frV (lowest n p))) → Q (.ref q) H'
theorem natAbs_if (n : Int) : (if n < 0 then -n else n) = (n.natAbs : Int) := by split <;> omega
theorem div_ok {n : Nat} (h : 0 < n) (l : n < 2 ^ 64) : CDivW 0 (n : Int) := wide_div (b := 64) (by omega) (by simpa using l) (by decide) (by decide)
def N_lowest_terms : List Str := ["number", "parts", "by"]
def t_lowest_terms (K : PySem.W.Frag) : TS := (tSeq (tAsg (tCall spCommon [] E0 (tCons (tCB cAbs (tCons (tVar 0) tNil)) (tCons (tVar 1) tNil))) (gName 2))
  (tRet (tTup (tCons (tOp nDiv (tVar 0) (tVar 2)) (tCons (tOp nDiv (tVar 1) (tVar 2)) tNil)))))
theorem rd_lowest (K : PySem.W.Frag) : Reads N_lowest_terms spLowest (t_lowest_terms K) := by
  rintro vs H Q E ⟨n, p, rfl, hp, hl, k⟩
  show t_lowest_terms K _ [some (.int n), some (.int (p : Int)), none] H
  unfold t_lowest_terms
  walk_at "st"
  refine ⟨n.natAbs, p, by rw [natAbs_if]; rfl, ?_⟩
  have hg : 0 < Nat.gcd n.natAbs p := Nat.gcd_pos_of_pos_right _ hp
  have hd : CDivW 0 ((Nat.gcd n.natAbs p : Nat) : Int) := div_ok hg (Nat.lt_of_le_of_lt (Nat.le_of_dvd hp (Nat.gcd_dvd_right _ _)) hl)
  walk_at "st"
  refine x_nDiv hd ?_
  walk_at "st"
  refine x_nDiv hd ?_
  walk_at "st"
  exact x_kTup (by walk_at "len") fun q H' _ s e => k q H' s e
/-! ### Standing -/
def stN : List Str := ["points", "tallies", "runs", "faced"]
theorem stN_nd : stN.Nodup := by decide +kernel
theorem gf_Standing_points {K : PySem.W.Frag} {H : Hp} {Q : VK} {v : V} {vs : List V} {p dx : Addr} (T : ClsT K "Standing" stN) (a : H p = some (.ins (He.ga K "Standing") dx (stN.zip vs))) (hv : vs[0]? = some v) (h : Q v H) : kFld K "points" Q (.ref p) H := x_get 0 a T.cl (T.at (i := 0) rfl) stN_nd h rfl hv
theorem pf_Standing_points {K : PySem.W.Frag} {σ : L2.St} {H : Hp} {y : V} {nx : L2.St → Hp → Prop} {vs : List V} {p dx : Addr} (T : ClsT K "Standing" stN) (a : H p = some (.ins (He.ga K "Standing") dx (stN.zip vs))) (h : ∀ H1, But p H H1 → H1 p = some (.ins (He.ga K "Standing") dx (stN.zip (vs.set 0 y))) → nx σ H1) (hl : 0 < vs.length := by simp) : kSFld K "points" nx σ y (.ref p) H := x_put 0 a T.cl (T.at (i := 0) rfl) stN_nd h rfl hl
theorem gf_Standing_tallies {K : PySem.W.Frag} {H : Hp} {Q : VK} {v : V} {vs : List V} {p dx : Addr} (T : ClsT K "Standing" stN) (a : H p = some (.ins (He.ga K "Standing") dx (stN.zip vs))) (hv : vs[1]? = some v) (h : Q v H) : kFld K "tallies" Q (.ref p) H := x_get 1 a T.cl (T.at (i := 1) rfl) stN_nd h rfl hv
theorem pf_Standing_tallies {K : PySem.W.Frag} {σ : L2.St} {H : Hp} {y : V} {nx : L2.St → Hp → Prop} {vs : List V} {p dx : Addr} (T : ClsT K "Standing" stN) (a : H p = some (.ins (He.ga K "Standing") dx (stN.zip vs))) (h : ∀ H1, But p H H1 → H1 p = some (.ins (He.ga K "Standing") dx (stN.zip (vs.set 1 y))) → nx σ H1) (hl : 1 < vs.length := by simp) : kSFld K "tallies" nx σ y (.ref p) H := x_put 1 a T.cl (T.at (i := 1) rfl) stN_nd h rfl hl
theorem gf_Standing_runs {K : PySem.W.Frag} {H : Hp} {Q : VK} {v : V} {vs : List V} {p dx : Addr} (T : ClsT K "Standing" stN) (a : H p = some (.ins (He.ga K "Standing") dx (stN.zip vs))) (hv : vs[2]? = some v) (h : Q v H) : kFld K "runs" Q (.ref p) H := x_get 2 a T.cl (T.at (i := 2) rfl) stN_nd h rfl hv
theorem pf_Standing_runs {K : PySem.W.Frag} {σ : L2.St} {H : Hp} {y : V} {nx : L2.St → Hp → Prop} {vs : List V} {p dx : Addr} (T : ClsT K "Standing" stN) (a : H p = some (.ins (He.ga K "Standing") dx (stN.zip vs))) (h : ∀ H1, But p H H1 → H1 p = some (.ins (He.ga K "Standing") dx (stN.zip (vs.set 2 y))) → nx σ H1) (hl : 2 < vs.length := by simp) : kSFld K "runs" nx σ y (.ref p) H := x_put 2 a T.cl (T.at (i := 2) rfl) stN_nd h rfl hl
theorem gf_Standing_faced {K : PySem.W.Frag} {H : Hp} {Q : VK} {v : V} {vs : List V} {p dx : Addr} (T : ClsT K "Standing" stN) (a : H p = some (.ins (He.ga K "Standing") dx (stN.zip vs))) (hv : vs[3]? = some v) (h : Q v H) : kFld K "faced" Q (.ref p) H := x_get 3 a T.cl (T.at (i := 3) rfl) stN_nd h rfl hv
theorem pf_Standing_faced {K : PySem.W.Frag} {σ : L2.St} {H : Hp} {y : V} {nx : L2.St → Hp → Prop} {vs : List V} {p dx : Addr} (T : ClsT K "Standing" stN) (a : H p = some (.ins (He.ga K "Standing") dx (stN.zip vs))) (h : ∀ H1, But p H H1 → H1 p = some (.ins (He.ga K "Standing") dx (stN.zip (vs.set 3 y))) → nx σ H1) (hl : 3 < vs.length := by simp) : kSFld K "faced" nx σ y (.ref p) H := x_put 3 a T.cl (T.at (i := 3) rfl) stN_nd h rfl hl
local macro_rules | `(tactic| walk_at "fld") => `(tactic| first
  | ((with_reducible apply gf_Standing_points); (· with_reducible assumption); (· walk_at "rd"); (· rfl))
  | ((with_reducible apply gf_Standing_tallies); (· with_reducible assumption); (· walk_at "rd"); (· rfl))
  | ((with_reducible apply gf_Standing_runs); (· with_reducible assumption); (· walk_at "rd"); (· rfl))
  | ((with_reducible apply gf_Standing_faced); (· with_reducible assumption); (· walk_at "rd"); (· rfl)))
structure StD where
  pts : Int
  won : Int
  tied : Int
  lost : Int
  rm : Int
  ro : Int
  bm : Int
  bo : Int
/-- a Standing at a, its lists at t, r, f -/
structure StAt (K : PySem.W.Frag) (H : Hp) (a t r f : Addr) (s : StD) : Prop where
  ob : ∃ dx, H a = some (.ins (He.ga K "Standing") dx (stN.zip [.int s.pts, .ref t, .ref r, .ref f]))
  ht : H t = some (.lst [.int s.won, .int s.tied, .int s.lost])
  hr : H r = some (.lst [.int s.rm, .int s.ro])
  hf : H f = some (.lst [.int s.bm, .int s.bo])
  tr : t ≠ r
  tf : t ≠ f
  rf : r ≠ f
abbrev StT (K : PySem.W.Frag) : Prop := ClsT K "Standing" stN
def st0 : StD := ⟨0, 0, 0, 0, 0, 0, 0, 0⟩
def spStInit (K : PySem.W.Frag) : Sp := fun vs H Q _ => ∃ a dx, vs = [.ref a] ∧ H a = some (.ins (He.ga K "Standing") dx []) ∧
  ∀ t r f H', StAt K H' a t r f st0 → H t = none → H r = none → H f = none → But a H H' → Q .non H'
def N_Standing_init : List Str := ["self"]
def t_Standing_init (K : PySem.W.Frag) : TS := (tSeq (sFld K (tVar 0) (tC (.int 0)) "points")
  (tSeq (sFld K (tVar 0) (tLst (tCons (tC (.int 0)) (tCons (tC (.int 0)) (tCons (tC (.int 0)) tNil)))) "tallies")
  (tSeq (sFld K (tVar 0) (tLst (tCons (tC (.int 0)) (tCons (tC (.int 0)) tNil))) "runs")
  (sFld K (tVar 0) (tLst (tCons (tC (.int 0)) (tCons (tC (.int 0)) tNil))) "faced"))))
theorem rd_stInit {K : PySem.W.Frag} (T : StT K) : Reads N_Standing_init (spStInit K) (t_Standing_init K) := by
  rintro vs H Q E ⟨a, dx, rfl, ha, k⟩
  show t_Standing_init K _ [some (.ref a)] H
  unfold t_Standing_init
  walk_at "st"
  refine x_put0 (N := []) (vs := []) ha T.cl (T.at (i := 0) rfl) fun H1 b1 e1 => ?_
  walk_at "st"
  refine x_kLst (by walk_at "len") fun t H2 n2 s2 e2 => ?_
  walk_at "st"
  refine x_put0 (s2 _ _ e1) T.cl (T.at (i := 1) rfl) fun H3 b3 e3 => ?_
  walk_at "st"
  refine x_kLst (by walk_at "len") fun r H4 n4 s4 e4 => ?_
  walk_at "st"
  refine x_put0 (s4 _ _ e3) T.cl (T.at (i := 2) rfl) fun H5 b5 e5 => ?_
  walk_at "st"
  refine x_kLst (by walk_at "len") fun f H6 n6 s6 e6 => ?_
  walk_at "st"
  refine x_put0 (s6 _ _ e5) T.cl (T.at (i := 3) rfl) fun H7 b7 e7 => ?_
  have ta : t ≠ a := (ne_of_none e1 n2).symm
  have ra : r ≠ a := (ne_of_none e3 n4).symm
  have fa : f ≠ a := (ne_of_none e5 n6).symm
  have t3 := b3 _ _ ta e2
  have t5 := b5 _ _ ta (s4 _ _ t3)
  have r5 := b5 _ _ ra e4
  refine k t r f H7 ⟨⟨dx, e7⟩, b7 _ _ ta (s6 _ _ t5), b7 _ _ ra (s6 _ _ r5), b7 _ _ fa e6, ne_of_none t3 n4, ne_of_none t5 n6, ne_of_none r5 n6⟩ ?_ ?_ ?_ ?_
  · walk_at "fr"
  · walk_at "fr"
  · walk_at "fr"
  · exact Kept.toBut (by walk_at "kp")
/-! ### a game taken in -/
def took (s : StD) (w t l r0 r1 b0 b1 : Int) : StD :=
  if r0 = r1 then { s with pts := s.pts + t, tied := s.tied + 1, rm := s.rm + r0, ro := s.ro + r1, bm := s.bm + b0, bo := s.bo + b1 }
  else if r0 < r1 then { s with pts := s.pts + l, lost := s.lost + 1, rm := s.rm + r0, ro := s.ro + r1, bm := s.bm + b0, bo := s.bo + b1 }
  else { s with pts := s.pts + w, won := s.won + 1, rm := s.rm + r0, ro := s.ro + r1, bm := s.bm + b0, bo := s.bo + b1 }
def spTake (K : PySem.W.Frag) : Sp := fun vs H Q _ => ∃ (a t r f p rs bs : Addr) (s : StD) (x y z r0 r1 b0 b1 : Int), vs = [.ref a, .ref p, .ref rs, .ref bs] ∧ StAt K H a t r f s ∧ SqT K H p [.int x, .int y, .int z] ∧
  H rs = some (.lst [.int r0, .int r1]) ∧ H bs = some (.lst [.int b0, .int b1]) ∧ (∀ q, q = t ∨ q = r ∨ q = f → q ≠ rs ∧ q ≠ bs) ∧
  ∀ H', StAt K H' a t r f (took s x y z r0 r1 b0 b1) → Kept [a, t, r, f] H H' → Q .non H'
def N_Standing_take_game : List Str := ["self", "points", "runs", "balls", "place", "k"]
def t_Standing_take_game (K : PySem.W.Frag) : TS := (tSeq (tAsg (tC (.int 1)) (gName 4))
  (tCut (tIfS (tTest (tOp rNe (tOp (rIxL K) (tVar 2) (tC (.int 0))) (tOp (rIxL K) (tVar 2) (tC (.int 1)))))
  (tAsg (tOp nMul (tC (.int 2)) (tCB cInt (tCons (tOp nLt (tOp (rIxL K) (tVar 2) (tC (.int 0))) (tOp (rIxL K) (tVar 2) (tC (.int 1)))) tNil))) (gName 4))
  tNext)
  (tSeq (tAugS (tFld K (tVar 0) "tallies") (tVar 4) (tC (.int 1)) (gIxL K) (ipI fun i j => i + j) rSetL)
  (tSeq (sFldAug K (tVar 0) (tOp (rIxT K) (tVar 1) (tVar 4)) rAdd "points")
  (tFor (iRng1 (tCons (tC (.int 2)) tNil)) (gName 5)
  (tSeq (tAugS (tFld K (tVar 0) "runs") (tVar 5) (tOp (rIxL K) (tVar 2) (tVar 5)) (gIxL K) (ipI fun i j => i + j) rSetL)
  (tAugS (tFld K (tVar 0) "faced") (tVar 5) (tOp (rIxL K) (tVar 3) (tVar 5)) (gIxL K) (ipI fun i j => i + j) rSetL)))))))
theorem rd_take {K : PySem.W.Frag} (T : StT K) : Reads N_Standing_take_game (spTake K) (t_Standing_take_game K) := by
  rintro vs H Q E ⟨a, t, r, f, p, rs, bs, s, x, y, z, r0, r1, b0, b1', rfl, ⟨⟨dx, hob⟩, ht, hr, hf, tr, tf, rf⟩, hp, hrs, hbs, hne, k⟩
  show t_Standing_take_game K _ [some (.ref a), some (.ref p), some (.ref rs), some (.ref bs), none, none] H
  unfold t_Standing_take_game
  walk_at "st"
  refine x_cut (fun σ' H' => H' = H ∧ ∃ j : Nat, σ' = [some (.ref a), some (.ref p), some (.ref rs), some (.ref bs), some (.int (j : Int)), none] ∧
    (r0 = r1 ∧ j = 1 ∨ r0 < r1 ∧ j = 2 ∨ r1 < r0 ∧ j = 0)) ?_ ?_
  · walk_at "st"
    refine x_ndec (fun h => ?_) (fun h => ?_)
    · walk_at "st"
      refine ⟨rfl, if r0 < r1 then 2 else 0, ?_, ?_⟩
      · by_cases c : r0 < r1
        · simp [c]
        · simp [c]
      · by_cases c : r0 < r1
        · rw [if_pos c]; exact .inr (.inl ⟨c, rfl⟩)
        · rw [if_neg c]; exact .inr (.inr ⟨by omega, rfl⟩)
    · walk_at "st"
      exact ⟨rfl, 1, rfl, .inl ⟨h, rfl⟩⟩
  · rintro σ' H' ⟨rfl, j, rfl, hj⟩
    have ntr : t ≠ rs ∧ t ≠ bs := hne t (.inl rfl)
    have nrr : r ≠ rs ∧ r ≠ bs := hne r (.inr (.inl rfl))
    have nfr : f ≠ rs ∧ f ≠ bs := hne f (.inr (.inr rfl))
    have nta : t ≠ a := ne_of ht hob (by intro z; cases z)
    have nra : r ≠ a := ne_of hr hob (by intro z; cases z)
    have nfa : f ≠ a := ne_of hf hob (by intro z; cases z)
    have nsa : rs ≠ a := ne_of hrs hob (by intro z; cases z)
    have nba : bs ≠ a := ne_of hbs hob (by intro z; cases z)
    walk_at "st"
    refine x_gIxL (j := j) rfl (SqL.of ht) (v := .int (if j = 0 then s.won else if j = 1 then s.tied else s.lost)) ?_ ?_
    · rcases hj with ⟨_, rfl⟩ | ⟨_, rfl⟩ | ⟨_, rfl⟩ <;> rfl
    walk_at "st"
    refine x_setL (j := j) ht ?_ fun H1 b1 e1 => ?_
    · rcases hj with ⟨_, rfl⟩ | ⟨_, rfl⟩ | ⟨_, rfl⟩ <;> rfl
    have hob1 := b1 _ _ nta.symm hob
    have hp1 : SqT K H1 p [.int x, .int y, .int z] := But.sqT b1 hp ht
    refine x_faug 0 0 hob1 T.cl (T.at (i := 0) rfl) stN_nd ?_
    walk_at "st"
    refine x_ixT hp1 (v := .int (if j = 0 then x else if j = 1 then y else z)) ?_ ?_
    · rcases hj with ⟨_, rfl⟩ | ⟨_, rfl⟩ | ⟨_, rfl⟩ <;> rfl
    walk_at "st"
    refine x_kfa 0 hob1 stN_nd fun H2 b2 e2 => ?_
    have r2 := b2 _ _ nra (b1 _ _ tr.symm hr)
    have f2 := b2 _ _ nfa (b1 _ _ tf.symm hf)
    have t2 := b2 _ _ nta e1
    have rs2 := b2 _ _ nsa (b1 _ _ ntr.1.symm hrs)
    have bs2 := b2 _ _ nba (b1 _ _ ntr.2.symm hbs)
    walk_at "st"
    refine x_for2 ?_
    walk_at "st"
    refine x_setL r2 rfl fun H3 b3 e3 => ?_
    have e23 := b3 _ _ nra.symm e2
    have rs3 := b3 _ _ nrr.1.symm rs2
    have bs3 := b3 _ _ nrr.2.symm bs2
    have f3 := b3 _ _ rf.symm f2
    walk_at "st"
    refine x_setL f3 rfl fun H4 b4 e4 => ?_
    have e24 := b4 _ _ nfa.symm e23
    have rs4 := b4 _ _ nfr.1.symm rs3
    have bs4 := b4 _ _ nfr.2.symm bs3
    have r4 := b4 _ _ rf e3
    walk_at "st"
    refine x_setL r4 rfl fun H5 b5 e5 => ?_
    have e25 := b5 _ _ nra.symm e24
    have bs5 := b5 _ _ nrr.2.symm bs4
    have f5 := b5 _ _ rf.symm e4
    walk_at "st"
    refine x_setL f5 rfl fun H6 b6 e6 => ?_
    have e26 := b6 _ _ nfa.symm e25
    have r6 := b6 _ _ rf e5
    have t6 := b6 _ _ tf (b5 _ _ tr (b4 _ _ tf (b3 _ _ tr t2)))
    refine k H6 ?_ (by walk_at "kp")
    rcases hj with ⟨c, rfl⟩ | ⟨c, rfl⟩ | ⟨c, rfl⟩
    · have e : took s x y z r0 r1 b0 b1' = { s with pts := s.pts + y, tied := s.tied + 1, rm := s.rm + r0, ro := s.ro + r1, bm := s.bm + b0, bo := s.bo + b1' } := if_pos c
      rw [e]
      exact ⟨⟨dx, e26⟩, t6, r6, e6, tr, tf, rf⟩
    · have e : took s x y z r0 r1 b0 b1' = { s with pts := s.pts + z, lost := s.lost + 1, rm := s.rm + r0, ro := s.ro + r1, bm := s.bm + b0, bo := s.bo + b1' } := (if_neg (by omega)).trans (if_pos c)
      rw [e]
      exact ⟨⟨dx, e26⟩, t6, r6, e6, tr, tf, rf⟩
    · have e : took s x y z r0 r1 b0 b1' = { s with pts := s.pts + x, won := s.won + 1, rm := s.rm + r0, ro := s.ro + r1, bm := s.bm + b0, bo := s.bo + b1' } := (if_neg (by omega)).trans (if_neg (by omega))
      rw [e]
      exact ⟨⟨dx, e26⟩, t6, r6, e6, tr, tf, rf⟩
/-! ### a team's rate -/
def rateD (s : StD) : Int × Int := lowest (s.rm * s.bo - s.ro * s.bm) (s.bm * s.bo).toNat
structure StOk (s : StD) : Prop where
  rm : 0 ≤ s.rm ∧ s.rm < 2 ^ 31
  ro : 0 ≤ s.ro ∧ s.ro < 2 ^ 31
  bm : 0 < s.bm ∧ s.bm < 2 ^ 31
  bo : 0 < s.bo ∧ s.bo < 2 ^ 31
theorem mul_small {a b : Int} (ha : 0 ≤ a ∧ a < 2 ^ 31) (hb : 0 ≤ b ∧ b < 2 ^ 31) : a * b < 2 ^ 64 := by
  have h1 : a * b ≤ 2 ^ 31 * b := Int.mul_le_mul_of_nonneg_right (by omega) hb.1
  have h2 : (2 : Int) ^ 31 * b ≤ 2 ^ 31 * 2 ^ 31 := Int.mul_le_mul_of_nonneg_left (by omega) (by decide)
  omega
def spRate (K : PySem.W.Frag) : Sp := fun vs H Q _ => ∃ (a t r f : Addr) (s : StD), vs = [.ref a] ∧ StAt K H a t r f s ∧ StOk s ∧ ∀ q H', Same H H' → H' q = some (.tup (frV (rateD s))) → Q (.ref q) H'
def N_Standing_rate : List Str := ["self", "number"]
def t_Standing_rate (K : PySem.W.Frag) : TS := (tSeq (tAsg (tOp nSub (tOp nMul (tOp (rIxL K) (tFld K (tVar 0) "runs") (tC (.int 0))) (tOp (rIxL K) (tFld K (tVar 0) "faced") (tC (.int 1)))) (tOp nMul (tOp (rIxL K) (tFld K (tVar 0) "runs") (tC (.int 1))) (tOp (rIxL K) (tFld K (tVar 0) "faced") (tC (.int 0))))) (gName 1))
  (tRet (tCall spLowest [] E0 (tCons (tVar 1) (tCons (tOp nMul (tOp (rIxL K) (tFld K (tVar 0) "faced") (tC (.int 0))) (tOp (rIxL K) (tFld K (tVar 0) "faced") (tC (.int 1)))) tNil)))))
theorem rd_rate {K : PySem.W.Frag} (T : StT K) : Reads N_Standing_rate (spRate K) (t_Standing_rate K) := by
  rintro vs H Q E ⟨a, t, r, f, s, rfl, ⟨⟨dx, hob⟩, ht, hr, hf, tr, tf, rf⟩, ok, k⟩
  show t_Standing_rate K _ [some (.ref a), none] H
  unfold t_Standing_rate
  have c1 := ok.rm
  have c2 := ok.ro
  have c3 := ok.bm
  have c4 := ok.bo
  walk_at "st"
  have hm : s.bm * s.bo < 2 ^ 64 := mul_small ⟨by omega, c3.2⟩ ⟨by omega, c4.2⟩
  have h0 : 0 < s.bm * s.bo := Int.mul_pos c3.1 c4.1
  exact ⟨_, (s.bm * s.bo).toNat, by rw [Int.toNat_of_nonneg (Int.le_of_lt h0)]; rfl, by omega, by omega, fun q H' s' e => k q H' s' e⟩
/-! L2: the table of standings. -/
open PySem PySem.Spec PyProof.Rows L2
open Evl (tCut)
/-! ### games -/
structure Game where
  a : Str
  r : Int
  n : Int
  b : Str
  s : Int
  m : Int
def gameV (g : Game) : List V := [.str g.a, .int g.r, .int g.n, .str g.b, .int g.s, .int g.m]
/-- vs stands for the games gs: each a tuple that is to be read -/
def GsRel (K : PySem.W.Frag) (H : Hp) (vs : List V) (gs : List Game) : Prop := vs.length = gs.length ∧ ∀ (i : Nat) (g : Game), gs[i]? = some g → ∃ q, vs[i]? = some (.ref q) ∧ SqT K H q (gameV g)
def GsAt (K : PySem.W.Frag) (H : Hp) (l : Addr) (gs : List Game) : Prop := ∃ vs, SqL K H l vs ∧ GsRel K H vs gs
theorem GsRel.same {K : PySem.W.Frag} {H H' : Hp} {vs : List V} {gs : List Game} (s : Same H H') (h : GsRel K H vs gs) : GsRel K H' vs gs := ⟨h.1, fun i g e => let ⟨q, a, b⟩ := h.2 i g e; ⟨q, a, Same.sqT s b⟩⟩
theorem GsAt.same {K : PySem.W.Frag} {H H' : Hp} {l : Addr} {gs : List Game} (s : Same H H') (h : GsAt K H l gs) : GsAt K H' l gs := let ⟨vs, a, b⟩ := h; ⟨vs, s.seq a, b.same s⟩
/-! ### the mirror -/
def upS (f : StD → StD) (k : Str) : List (Str × StD) → List (Str × StD)
  | [] => [(k, f st0)]
  | (j, s) :: r => if j = k then (j, f s) :: r else (j, s) :: upS f k r
def turnS (x y z : Int) (acc : List (Str × StD)) (g : Game) : List (Str × StD) :=
  upS (fun s => took s x y z g.s g.r g.m g.n) g.b (upS (fun s => took s x y z g.r g.s g.n g.m) g.a acc)
def stands (x y z : Int) (gs : List Game) : List (Str × StD) := gs.foldl (turnS x y z) []
/-! ### the table in the heap -/
structure Ent where
  k : Str
  a : Addr
  t : Addr
  r : Addr
  f : Addr
  s : StD
def Ent.ks (e : Ent) : Str × StD := (e.k, e.s)
def Ent.kv (e : Ent) : Key × V := (.inr e.k, .ref e.a)
def Ent.foot (e : Ent) : List Addr := [e.a, e.t, e.r, e.f]
def feet (L : List Ent) : List Addr := L.flatMap Ent.foot
/-- behind H0 a dict at d of the entries L, all of them made since -/
structure Tab (K : PySem.W.Frag) (H0 H : Hp) (d : Addr) (L : List Ent) : Prop where
  same : Same H0 H
  d0 : H0 d = none
  hd : H d = some (.dK (L.map Ent.kv))
  hs : ∀ e ∈ L, StAt K H e.a e.t e.r e.f e.s
  nd : (feet L).Nodup
  new : ∀ q ∈ feet L, H0 q = none
theorem find_ent {L : List Ent} {k : Str} {v : V} (h : valV (L.map Ent.kv) (Sum.inr k) = some v) : ∃ L1 e L2, L = L1 ++ e :: L2 ∧ e.k = k ∧ v = .ref e.a ∧ ∀ f, upS f k (L.map Ent.ks) = L1.map Ent.ks ++ (k, f e.s) :: L2.map Ent.ks := by
  induction L with
  | nil => cases h
  | cons e r ih =>
    by_cases c : e.k = k
    · have e1 : v = .ref e.a := by
        have z : valV (Ent.kv e :: r.map Ent.kv) (Sum.inr k) = some (Ent.kv e).2 := valV_pos (congrArg Sum.inr c)
        exact (Option.some.inj (z.symm.trans h)).symm
      refine ⟨[], e, r, rfl, c, e1, fun f => ?_⟩
      show (if e.k = k then (e.k, f e.s) :: r.map Ent.ks else _) = _
      rw [if_pos c, c]
      rfl
    · have z : valV (Ent.kv e :: r.map Ent.kv) (Sum.inr k) = valV (r.map Ent.kv) (Sum.inr k) := valV_neg fun q => c (Sum.inr.inj q)
      obtain ⟨L1, e', L2, h1, h2, h3, h4⟩ := ih (z.symm.trans h)
      refine ⟨e :: L1, e', L2, by rw [h1]; rfl, h2, h3, fun f => ?_⟩
      show (if e.k = k then _ else (e.k, e.s) :: upS f k (r.map Ent.ks)) = _
      rw [if_neg c, h4 f]
      rfl
theorem miss_ent {L : List Ent} {k : Str} (h : valV (L.map Ent.kv) (Sum.inr k) = none) (f : StD → StD) : upS f k (L.map Ent.ks) = L.map Ent.ks ++ [(k, f st0)] := by
  induction L with
  | nil => rfl
  | cons e r ih =>
    by_cases c : e.k = k
    · have z : valV (Ent.kv e :: r.map Ent.kv) (Sum.inr k) = some (Ent.kv e).2 := valV_pos (congrArg Sum.inr c)
      have z2 : valV (Ent.kv e :: r.map Ent.kv) (Sum.inr k) = none := h
      rw [z] at z2
      cases z2
    · have z : valV (Ent.kv e :: r.map Ent.kv) (Sum.inr k) = valV (r.map Ent.kv) (Sum.inr k) := valV_neg fun q => c (Sum.inr.inj q)
      show (if e.k = k then _ else (e.k, e.s) :: upS f k (r.map Ent.ks)) = _
      rw [if_neg c, ih (z.symm.trans h)]
      rfl
theorem feet_app (L1 L2 : List Ent) : feet (L1 ++ L2) = feet L1 ++ feet L2 := List.flatMap_append
theorem feet_mid (L1 : List Ent) (e : Ent) (L2 : List Ent) : feet (L1 ++ e :: L2) = feet L1 ++ (e.foot ++ feet L2) := by rw [feet_app]; rfl
theorem mem_feet {L : List Ent} {e : Ent} (h : e ∈ L) {q : Addr} (hq : q ∈ e.foot) : q ∈ feet L := List.mem_flatMap.mpr ⟨e, h, hq⟩
theorem StAt.kept {K : PySem.W.Frag} {H H' : Hp} {l : List Addr} {a t r f : Addr} {s : StD} (k : Kept l H H') (h : StAt K H a t r f s) (n : ∀ q ∈ ([a, t, r, f] : List Addr), ¬ q ∈ l) : StAt K H' a t r f s :=
  let ⟨dx, e⟩ := h.ob
  ⟨⟨dx, k _ _ (n a (by simp)) e⟩, k _ _ (n t (by simp)) h.ht, k _ _ (n r (by simp)) h.hr, k _ _ (n f (by simp)) h.hf, h.tr, h.tf, h.rf⟩
/-- the objects of an entry are there -/
theorem StAt.there {K : PySem.W.Frag} {H : Hp} {a t r f : Addr} {s : StD} (h : StAt K H a t r f s) {q : Addr} (hq : q ∈ ([a, t, r, f] : List Addr)) : ∃ o, H q = some o := by
  simp only [List.mem_cons, List.not_mem_nil, or_false] at hq
  obtain ⟨dx, e⟩ := h.ob
  rcases hq with rfl | rfl | rfl | rfl
  · exact ⟨_, e⟩
  · exact ⟨_, h.ht⟩
  · exact ⟨_, h.hr⟩
  · exact ⟨_, h.hf⟩
theorem StAt.nd {K : PySem.W.Frag} {H : Hp} {a t r f : Addr} {s : StD} (h : StAt K H a t r f s) : ([a, t, r, f] : List Addr).Nodup := by
  obtain ⟨dx, e⟩ := h.ob
  have h1 := ne_of e h.ht (by intro z; cases z)
  have h2 := ne_of e h.hr (by intro z; cases z)
  have h3 := ne_of e h.hf (by intro z; cases z)
  simp [h1, h2, h3, h.tr, h.tf, h.rf]
/-- no dict is one of these -/
theorem StAt.notDict {K : PySem.W.Frag} {H : Hp} {a t r f d : Addr} {s : StD} {kvs : List (Key × V)} (h : StAt K H a t r f s) (hd : H d = some (.dK kvs)) : ¬ d ∈ ([a, t, r, f] : List Addr) := fun m => by
  simp only [List.mem_cons, List.not_mem_nil, or_false] at m
  obtain ⟨dx, e⟩ := h.ob
  rcases m with rfl | rfl | rfl | rfl
  · rw [hd] at e; cases e
  · have := h.ht; rw [hd] at this; cases this
  · have := h.hr; rw [hd] at this; cases this
  · have := h.hf; rw [hd] at this; cases this
section
variable {K : PySem.W.Frag} {H0 H H' : Hp} {d : Addr} {L L1 L2 : List Ent} {e : Ent}
theorem Tab.step (T : Tab K H0 H d L) (s : Same H H') : Tab K H0 H' d L := ⟨T.same.trans s, T.d0, s _ _ T.hd, fun e m => (T.hs e m).kept (l := []) (fun b o _ q => s b o q) (by simp), T.nd, T.new⟩
theorem Tab.dnew (T : Tab K H0 H d L) : ¬ d ∈ feet L := fun m => by
  obtain ⟨e, he, hq⟩ := List.mem_flatMap.mp m
  exact (T.hs e he).notDict T.hd hq
/-- an entry has changed -/
theorem Tab.upd (T : Tab K H0 H d (L1 ++ e :: L2)) {s' : StD} (hs : StAt K H' e.a e.t e.r e.f s') (k : Kept [e.a, e.t, e.r, e.f] H H') : Tab K H0 H' d (L1 ++ { e with s := s' } :: L2) := by
  have nd := T.nd
  rw [feet_mid] at nd
  obtain ⟨n1, n2, n3⟩ := List.nodup_append.mp nd
  obtain ⟨m1, m2, m3⟩ := List.nodup_append.mp n2
  have hf : feet (L1 ++ { e with s := s' } :: L2) = feet (L1 ++ e :: L2) := by rw [feet_mid, feet_mid]; rfl
  have dn := T.dnew
  rw [feet_mid] at dn
  refine ⟨k.fresh T.same fun q m => T.new q ?_, T.d0, ?_, fun x hx => ?_, by rw [hf]; exact T.nd, by rw [hf]; exact T.new⟩
  · rw [feet_mid]; exact List.mem_append.mpr (.inr (List.mem_append.mpr (.inl m)))
  · rw [k d _ (fun m => dn (List.mem_append.mpr (.inr (List.mem_append.mpr (.inl m))))) T.hd, List.map_append, List.map_append]
    rfl
  · rcases List.mem_append.mp hx with m | m
    · exact (T.hs x (List.mem_append.mpr (.inl m))).kept k fun q hq hq2 => n3 q (mem_feet m hq) q (List.mem_append.mpr (.inl hq2)) rfl
    · rcases List.mem_cons.mp m with rfl | m
      · exact hs
      · exact (T.hs x (List.mem_append.mpr (.inr (List.mem_cons_of_mem _ m)))).kept k fun q hq hq2 => m3 q hq2 q (mem_feet m hq) rfl
/-- an entry comes behind -/
theorem Tab.more (T : Tab K H0 H d L) (hs : StAt K H e.a e.t e.r e.f e.s) (n : ∀ q ∈ e.foot, ¬ q ∈ feet L) (f0 : ∀ q ∈ e.foot, H0 q = none) (b : But d H H') (hd : H' d = some (.dK (L.map Ent.kv ++ [e.kv]))) : Tab K H0 H' d (L ++ [e]) := by
  have kp : Kept [d] H H' := fun x o hx q => b x o (by simpa using hx) q
  have hf : feet (L ++ [e]) = feet L ++ e.foot := by rw [feet_app]; show feet L ++ (e.foot ++ []) = _; rw [List.append_nil]
  refine ⟨kp.fresh T.same (by simpa using T.d0), T.d0, by rw [hd, List.map_append]; rfl, fun x hx => ?_, ?_, fun q hq => ?_⟩
  · rcases List.mem_append.mp hx with m | m
    · exact (T.hs x m).kept kp fun q hq hq2 => T.dnew (by rw [← List.mem_singleton.mp hq2]; exact mem_feet m hq)
    · obtain rfl := List.mem_singleton.mp m
      exact hs.kept kp fun q hq hq2 => hs.notDict T.hd (by rw [← List.mem_singleton.mp hq2]; exact hq)
  · rw [hf]
    exact List.nodup_append.mpr ⟨T.nd, hs.nd, fun a ha b hb z => n b hb (z ▸ ha)⟩
  · rw [hf] at hq
    rcases List.mem_append.mp hq with m | m
    · exact T.new q m
    · exact f0 q m
end
/-! L3: standings, rate_of. -/
open PySem PySem.Spec PyProof.Rows L2
open Evl (tCut)
section
variable {K : PySem.W.Frag} {H0 H : Hp} {d p : Addr} {L La Lb : List Ent} {e : Ent} {σ : L2.St} {Q : VK} {ik ix iy iu iv : Nat} {k : Str} {x y z r0 r1 b0 b1 : Int}
theorem half_rest (Tb : Tab K H0 H d (La ++ e :: Lb)) (hp : SqT K H0 p [.int x, .int y, .int z]) (h0 : σ[0]? = some (some (V.ref p))) (hx : σ[ix]? = some (some (V.int r0))) (hy : σ[iy]? = some (some (V.int r1))) (hu : σ[iu]? = some (some (V.int b0)))
    (hv : σ[iv]? = some (some (V.int b1))) (hk : ∀ H', Tab K H0 H' d (La ++ { e with s := took e.s x y z r0 r1 b0 b1 } :: Lb) → Q .non H') :
    kMeth (He.ga K "Standing") "take_game" (spTake K) [] E0 (tCons (tVar 0) (tCons (tLst (tCons (tVar ix) (tCons (tVar iy) tNil))) (tCons (tLst (tCons (tVar iu) (tCons (tVar iv) tNil))) tNil))) σ Q (.ref e.a) H := by
  have me : e ∈ La ++ e :: Lb := List.mem_append.mpr (.inr List.mem_cons_self)
  have hs := Tb.hs e me
  obtain ⟨dx, ho⟩ := hs.ob
  refine x_kMeth ho (fl_no (by decide +kernel)) ?_
  refine x_cons (x_var h0 ?_)
  refine x_cons (x_lst (x_cons (x_var hx (x_cons (x_var hy (x_nil ?_))))))
  refine x_kLst (by walk_at "len") fun rs H1 n1 s1 e1 => ?_
  refine x_cons (x_lst (x_cons (x_var hu (x_cons (x_var hv (x_nil ?_))))))
  refine x_kLst (by walk_at "len") fun bs H2 n2 s2 e2 => ?_
  refine x_nil ?_
  have T2 := (Tb.step s1).step s2
  refine ⟨e.a, e.t, e.r, e.f, p, rs, bs, e.s, x, y, z, r0, r1, b0, b1, rfl, T2.hs e me, Same.sqT T2.same hp, s2 _ _ e1, e2, fun q hq => ?_, fun H3 h3 k3 => hk H3 (T2.upd h3 k3)⟩
  have hq' : q ∈ ([e.a, e.t, e.r, e.f] : List Addr) := by
    rcases hq with rfl | rfl | rfl <;> simp
  obtain ⟨o, eo⟩ := hs.there hq'
  exact ⟨ne_of_none eo n1, ne_of_none (s1 _ _ eo) n2⟩
theorem half (T : StT K) (Tb : Tab K H0 H d L) (hl : L.length < 50000) (hp : SqT K H0 p [.int x, .int y, .int z]) (h0 : σ[0]? = some (some (V.ref p))) (h2 : σ[2]? = some (some (V.ref d))) (hi : σ[ik]? = some (some (V.str k)))
    (hx : σ[ix]? = some (some (V.int r0))) (hy : σ[iy]? = some (some (V.int r1))) (hu : σ[iu]? = some (some (V.int b0))) (hv : σ[iv]? = some (some (V.int b1)))
    (hk : ∀ H' L', Tab K H0 H' d L' → L'.map Ent.ks = upS (fun s => took s x y z r0 r1 b0 b1) k (L.map Ent.ks) → Q .non H') :
    tDSetd (tVar 2) (tVar ik) (tMake (He.ga K "Standing") (spStInit K) [] E0 tNil) σ H (fun w H1 => kMeth (He.ga K "Standing") "take_game" (spTake K) [] E0 (tCons (tVar 0) (tCons (tLst (tCons (tVar ix) (tCons (tVar iy) tNil))) (tCons (tLst (tCons (tVar iu) (tCons (tVar iv) tNil))) tNil))) σ Q w H1) := by
  refine x_setd h2 Tb.hd ?_
  refine x_var hi ?_
  refine x_make (x_nil (x_kMake fun a dx H1 n1 s1 e1 => ?_))
  refine ⟨a, dx, rfl, e1, fun t r f H2 hs nt nr nf b2 => ⟨rfl, ?_⟩⟩
  have s2 : Same H H2 := Same.but s1 n1 b2
  have T2 := Tb.step s2
  refine x_kSetd T2.hd (by rw [List.length_map]; omega) (fun v hv' => ?_) (fun hn H3 b3 e3 => ?_)
  · obtain ⟨L1, e, L2, rfl, rfl, rfl, hup⟩ := find_ent hv'
    refine half_rest T2 hp h0 hx hy hu hv fun H' T' => hk H' _ T' ?_
    rw [hup, List.map_append]
    rfl
  · have ft : ∀ q ∈ ([a, t, r, f] : List Addr), H q = none := by
      have g1 := Same.none s1 nt
      have g2 := Same.none s1 nr
      have g3 := Same.none s1 nf
      intro q hq
      simp only [List.mem_cons, List.not_mem_nil, or_false] at hq
      rcases hq with rfl | rfl | rfl | rfl <;> assumption
    have T3 : Tab K H0 H3 d (L ++ [⟨k, a, t, r, f, st0⟩]) := T2.more hs (fun q hq m => by
      obtain ⟨e, he, hq2⟩ := List.mem_flatMap.mp m
      obtain ⟨o, eo⟩ := (Tb.hs e he).there hq2
      rw [ft q hq] at eo
      cases eo) (fun q hq => Same.none Tb.same (ft q hq)) b3 e3
    refine half_rest (e := ⟨k, a, t, r, f, st0⟩) T3 hp h0 hx hy hu hv fun H' T' => hk H' _ T' ?_
    rw [miss_ent hn, List.map_append]
    rfl
end
theorem upS_len (f : StD → StD) (k : Str) : ∀ l : List (Str × StD), (upS f k l).length ≤ l.length + 1
  | [] => by simp [upS]
  | (j, s) :: r => by
    have ih := upS_len f k r
    unfold upS
    split
    · simp
    · simp only [List.length_cons]; omega
theorem turnS_len (x y z : Int) (acc : List (Str × StD)) (g : Game) : (turnS x y z acc g).length ≤ acc.length + 2 := by
  unfold turnS
  have h1 := upS_len (fun s => took s x y z g.s g.r g.m g.n) g.b (upS (fun s => took s x y z g.r g.s g.n g.m) g.a acc)
  have h2 := upS_len (fun s => took s x y z g.r g.s g.n g.m) g.a acc
  omega
theorem stands_take (x y z : Int) {gs : List Game} {i : Nat} {g : Game} (h : gs[i]? = some g) : stands x y z (gs.take (i + 1)) = turnS x y z (stands x y z (gs.take i)) g := by
  unfold stands
  rw [List.take_add_one, h, List.foldl_append]
  rfl
def spStandings (K : PySem.W.Frag) : Sp := fun vs H Q _ => ∃ (p l : Addr) (x y z : Int) (gs : List Game), vs = [.ref p, .ref l] ∧ SqT K H p [.int x, .int y, .int z] ∧ GsAt K H l gs ∧ gs.length ≤ 1000 ∧
  ∀ d H' L, Tab K H H' d L → L.map Ent.ks = stands x y z gs → Q (.ref d) H'
def N_standings : List Str := ["points", "games", "found", "one", "r", "n", "other", "s", "m"]
def t_standings (K : PySem.W.Frag) : TS := (tSeq (tAsg tDNewK (gName 2))
  (tSeq (tFor (iList K (tVar 1)) (gTup K 6 (gCons (gName 3) (gCons (gName 4) (gCons (gName 5) (gCons (gName 6) (gCons (gName 7) (gCons (gName 8) gNil)))))))
  (tSeq (tDrop (tMeth (He.ga K "Standing") "take_game" (spTake K) [] E0 (tDSetd (tVar 2) (tVar 3) (tMake (He.ga K "Standing") (spStInit K) [] E0 tNil)) (tCons (tVar 0) (tCons (tLst (tCons (tVar 4) (tCons (tVar 7) tNil))) (tCons (tLst (tCons (tVar 5) (tCons (tVar 8) tNil))) tNil)))))
  (tDrop (tMeth (He.ga K "Standing") "take_game" (spTake K) [] E0 (tDSetd (tVar 2) (tVar 6) (tMake (He.ga K "Standing") (spStInit K) [] E0 tNil)) (tCons (tVar 0) (tCons (tLst (tCons (tVar 7) (tCons (tVar 4) tNil))) (tCons (tLst (tCons (tVar 8) (tCons (tVar 5) tNil))) tNil)))))))
  (tRet (tVar 2))))
theorem rd_standings {K : PySem.W.Frag} (T : StT K) : Reads N_standings (spStandings K) (t_standings K) := by
  rintro vs H Q E ⟨p, l, x, y, z, gs, rfl, hp, ⟨us, hl, hg⟩, hn, k⟩
  show t_standings K _ [some (.ref p), some (.ref l), none, none, none, none, none, none, none] H
  unfold t_standings
  walk_at "st"
  refine x_dnew fun d H1 n1 s1 e1 => ?_
  walk_at "st"
  refine x_kForL (Same.seq s1 hl) (fun i σ H2 => ∃ (a b c e f g : Option V) (L : List Ent), σ = [some (.ref p), some (.ref l), some (.ref d), a, b, c, e, f, g] ∧ Tab K H H2 d L ∧ L.map Ent.ks = stands x y z (gs.take i) ∧ L.length ≤ 2 * i)
    ⟨none, none, none, none, none, none, [], rfl, ⟨s1, n1, e1, by simp, List.nodup_nil, by simp [feet]⟩, rfl, by simp⟩ ?_ ?_ ?_
  · rintro i σ H2 _ ⟨a, b, c, e, f, g, L, rfl, Tb, _⟩
    exact Same.seq Tb.same hl
  · rintro i v σ H2 hi ⟨a, b, c, e, f, g', L, rfl, Tb, hL, hlen⟩
    have hlt : i < gs.length := by rw [← hg.1]; exact (List.getElem?_eq_some_iff.mp hi).1
    obtain ⟨q, hq, ht⟩ := hg.2 i gs[i] (List.getElem?_eq_getElem hlt)
    obtain rfl : v = .ref q := Option.some.inj (hi.symm.trans hq)
    refine x_gtup (Same.sqT Tb.same ht) rfl ?_
    unfold gameV
    walk_at "st"
    refine half T Tb (by omega) hp (by rfl) (by rfl) (by rfl) (by rfl) (by rfl) (by rfl) (by rfl) fun H3 L3 T3 e3 => ?_
    have l3 : L3.length ≤ L.length + 1 := by
      have z1 := congrArg List.length e3
      have z2 := upS_len (fun s => took s x y z gs[i].r gs[i].s gs[i].n gs[i].m) gs[i].a (L.map Ent.ks)
      rw [List.length_map] at z1 z2
      omega
    walk_at "st"
    refine half T T3 (by omega) hp (by rfl) (by rfl) (by rfl) (by rfl) (by rfl) (by rfl) (by rfl) fun H4 L4 T4 e4 => ?_
    have l4 : L4.length ≤ L3.length + 1 := by
      have z1 := congrArg List.length e4
      have z2 := upS_len (fun s => took s x y z gs[i].s gs[i].r gs[i].m gs[i].n) gs[i].b (L3.map Ent.ks)
      rw [List.length_map] at z1 z2
      omega
    refine ⟨_, _, _, _, _, _, L4, rfl, T4, ?_, by omega⟩
    rw [e4, e3, hL, stands_take x y z (List.getElem?_eq_getElem hlt)]
    rfl
  · rintro σ H2 ⟨a, b, c, e, f, g, L, rfl, Tb, hL, _⟩
    walk_at "st"
    refine k d H2 L Tb ?_
    rw [hL, hg.1, List.take_length]
/-! L4: rate_of; bounds of what teams have. -/
open PySem PySem.Spec PyProof.Rows L2
open Evl (tCut)
structure GameOk (g : Game) : Prop where
  r : 0 ≤ g.r ∧ g.r ≤ 9999
  n : 1 ≤ g.n ∧ g.n ≤ 9999
  s : 0 ≤ g.s ∧ g.s ≤ 9999
  m : 1 ≤ g.m ∧ g.m ≤ 9999
/-- behind at most c games: sums within c times the most -/
structure StB (c : Nat) (s : StD) : Prop where
  rm : 0 ≤ s.rm ∧ s.rm ≤ 9999 * c
  ro : 0 ≤ s.ro ∧ s.ro ≤ 9999 * c
  bm : 0 ≤ s.bm ∧ s.bm ≤ 9999 * c
  bo : 0 ≤ s.bo ∧ s.bo ≤ 9999 * c
theorem took_rm (s : StD) (x y z r0 r1 b0 b1 : Int) : (took s x y z r0 r1 b0 b1).rm = s.rm + r0 := by unfold took; split <;> (try split) <;> rfl
theorem took_ro (s : StD) (x y z r0 r1 b0 b1 : Int) : (took s x y z r0 r1 b0 b1).ro = s.ro + r1 := by unfold took; split <;> (try split) <;> rfl
theorem took_bm (s : StD) (x y z r0 r1 b0 b1 : Int) : (took s x y z r0 r1 b0 b1).bm = s.bm + b0 := by unfold took; split <;> (try split) <;> rfl
theorem took_bo (s : StD) (x y z r0 r1 b0 b1 : Int) : (took s x y z r0 r1 b0 b1).bo = s.bo + b1 := by unfold took; split <;> (try split) <;> rfl
theorem StB.took {c : Nat} {s : StD} (h : StB c s) (x y z : Int) {r0 r1 b0 b1 : Int} (h0 : 0 ≤ r0 ∧ r0 ≤ 9999) (h1 : 0 ≤ r1 ∧ r1 ≤ 9999) (h2 : 1 ≤ b0 ∧ b0 ≤ 9999) (h3 : 1 ≤ b1 ∧ b1 ≤ 9999) :
    StB (c + 1) (took s x y z r0 r1 b0 b1) ∧ 0 < (took s x y z r0 r1 b0 b1).bm ∧ 0 < (took s x y z r0 r1 b0 b1).bo := by
  have a1 := h.rm
  have a2 := h.ro
  have a3 := h.bm
  have a4 := h.bo
  refine ⟨⟨?_, ?_, ?_, ?_⟩, ?_, ?_⟩
  · rw [took_rm]; omega
  · rw [took_ro]; omega
  · rw [took_bm]; omega
  · rw [took_bo]; omega
  · rw [took_bm]; omega
  · rw [took_bo]; omega
theorem StB.mono {c d : Nat} {s : StD} (h : StB c s) (l : c ≤ d) : StB d s := by
  have a1 := h.rm
  have a2 := h.ro
  have a3 := h.bm
  have a4 := h.bo
  exact ⟨by omega, by omega, by omega, by omega⟩
def StP (c : Nat) (s : StD) : Prop := StB c s ∧ 0 < s.bm ∧ 0 < s.bo
theorem upS_all {f : StD → StD} {k : Str} {P P' : StD → Prop} (h0 : P' (f st0)) (hf : ∀ s, P s → P' (f s)) (hm : ∀ s, P s → P' s) : ∀ {l : List (Str × StD)}, (∀ q ∈ l, P q.2) → ∀ q ∈ upS f k l, P' q.2
  | [], _, q, hq => by
    have e : q = (k, f st0) := by simpa [upS] using hq
    rw [e]; exact h0
  | (j, s) :: r, h, q, hq => by
    unfold upS at hq
    split at hq
    · rcases List.mem_cons.mp hq with e | m
      · rw [e]; exact hf s (h (j, s) List.mem_cons_self)
      · exact hm _ (h q (List.mem_cons_of_mem _ m))
    · rcases List.mem_cons.mp hq with e | m
      · rw [e]; exact hm s (h (j, s) List.mem_cons_self)
      · exact upS_all h0 hf hm (fun q m => h q (List.mem_cons_of_mem _ m)) q m
theorem stB0 (c : Nat) : StB c st0 := ⟨⟨by decide, by show (0 : Int) ≤ _; omega⟩, ⟨by decide, by show (0 : Int) ≤ _; omega⟩, ⟨by decide, by show (0 : Int) ≤ _; omega⟩, ⟨by decide, by show (0 : Int) ≤ _; omega⟩⟩
theorem turnS_all {c : Nat} {x y z : Int} {acc : List (Str × StD)} {g : Game} (ok : GameOk g) (h : ∀ q ∈ acc, StP c q.2) : ∀ q ∈ turnS x y z acc g, StP (c + 2) q.2 := by
  have h1 : ∀ q ∈ upS (fun s => took s x y z g.r g.s g.n g.m) g.a acc, StP (c + 1) q.2 :=
    upS_all (P := StP c) ((stB0 c).took x y z ok.r ok.s ok.n ok.m) (fun s hs => hs.1.took x y z ok.r ok.s ok.n ok.m) (fun s hs => ⟨hs.1.mono (by omega), hs.2⟩) h
  exact upS_all (P := StP (c + 1)) ((stB0 (c + 1)).took x y z ok.s ok.r ok.m ok.n) (fun s hs => hs.1.took x y z ok.s ok.r ok.m ok.n) (fun s hs => ⟨hs.1.mono (by omega), hs.2⟩) h1
theorem foldS_all {x y z : Int} : ∀ {gs : List Game} {acc : List (Str × StD)} {c : Nat}, (∀ g ∈ gs, GameOk g) → (∀ q ∈ acc, StP c q.2) → ∀ q ∈ gs.foldl (turnS x y z) acc, StP (c + 2 * gs.length) q.2
  | [], _, _, _, h => h
  | g :: gs, acc, c, ok, h => fun q hq => by
    have ih := foldS_all (gs := gs) (fun g m => ok g (List.mem_cons_of_mem _ m)) (turnS_all (x := x) (y := y) (z := z) (ok g List.mem_cons_self) h) q hq
    have e : c + 2 + 2 * gs.length = c + 2 * (g :: gs).length := by simp only [List.length_cons]; omega
    rw [← e]; exact ih
theorem stands_all {x y z : Int} {gs : List Game} (ok : ∀ g ∈ gs, GameOk g) (hl : gs.length ≤ 1000) : ∀ q ∈ stands x y z gs, StOk q.2 := fun q hq => by
  obtain ⟨hb, b1, b2⟩ := foldS_all (c := 0) ok (by simp) q hq
  have a1 := hb.rm
  have a2 := hb.ro
  have a3 := hb.bm
  have a4 := hb.bo
  exact ⟨⟨a1.1, by omega⟩, ⟨a2.1, by omega⟩, ⟨b1, by omega⟩, ⟨b2, by omega⟩⟩
theorem lookup_ent {L : List Ent} {k : Str} {s : StD} (h : (L.map Ent.ks).lookup k = some s) : ∃ e ∈ L, e.s = s ∧ valV (L.map Ent.kv) (Sum.inr k) = some (.ref e.a) := by
  induction L with
  | nil => cases h
  | cons e r ih =>
    by_cases c : e.k = k
    · have hb : (k == e.k) = true := beq_iff_eq.mpr c.symm
      have h2 : (match k == e.k with | true => some e.s | false => (r.map Ent.ks).lookup k) = some s := h
      rw [hb] at h2
      exact ⟨e, List.mem_cons_self, Option.some.inj h2, valV_pos (congrArg Sum.inr c)⟩
    · have hb : (k == e.k) = false := beq_eq_false_iff_ne.mpr fun q => c q.symm
      have h2 : (match k == e.k with | true => some e.s | false => (r.map Ent.ks).lookup k) = some s := h
      rw [hb] at h2
      obtain ⟨e', m, h3, h4⟩ := ih h2
      refine ⟨e', List.mem_cons_of_mem _ m, h3, ?_⟩
      have z : valV (Ent.kv e :: r.map Ent.kv) (Sum.inr k) = valV (r.map Ent.kv) (Sum.inr k) := valV_neg fun q => c (Sum.inr.inj q)
      exact z.trans h4
theorem lookup_mem' {l : List (Str × StD)} {k : Str} {s : StD} (h : l.lookup k = some s) : (k, s) ∈ l := by
  induction l with
  | nil => cases h
  | cons p r ih =>
    obtain ⟨j, t⟩ := p
    have h2 : (match k == j with | true => some t | false => r.lookup k) = some s := h
    cases hb : (k == j) with
    | true =>
      rw [hb] at h2
      have e1 : t = s := Option.some.inj h2
      have e2 : k = j := beq_iff_eq.mp hb
      rw [e1, e2]
      exact List.mem_cons_self
    | false =>
      rw [hb] at h2
      exact List.mem_cons_of_mem _ (ih h2)
def spRateOf (K : PySem.W.Frag) : Sp := fun vs H Q _ => ∃ (l : Addr) (gs : List Game) (nm : Str) (s : StD), vs = [.ref l, .str nm] ∧ GsAt K H l gs ∧ gs.length ≤ 1000 ∧ (∀ g ∈ gs, GameOk g) ∧ (stands 0 0 0 gs).lookup nm = some s ∧
  ∀ q H', Same H H' → H' q = some (.tup (frV (rateD s))) → Q (.ref q) H'
def N_rate_of : List Str := ["games", "team"]
def t_rate_of (K : PySem.W.Frag) : TS := (tRet (tMeth (He.ga K "Standing") "rate" (spRate K) [] E0 (tDGet (tCall (spStandings K) [] E0 (tCons (tTup (tCons (tC (.int 0)) (tCons (tC (.int 0)) (tCons (tC (.int 0)) tNil)))) (tCons (tVar 0) tNil))) (tVar 1)) tNil))
theorem rd_rateOf {K : PySem.W.Frag} (T : StT K) : Reads N_rate_of (spRateOf K) (t_rate_of K) := by
  rintro vs H Q E ⟨l, gs, nm, s, rfl, hg, hn, ok, hs, k⟩
  show t_rate_of K _ [some (.ref l), some (.str nm)] H
  unfold t_rate_of
  walk_at "st"
  refine x_kTup (by walk_at "len") fun p H1 n1 s1 e1 => ?_
  walk_at "st"
  refine ⟨p, l, 0, 0, 0, gs, rfl, SqT.of e1, hg.same s1, hn, fun d H2 L Tb hL => ?_⟩
  rw [← hL] at hs
  obtain ⟨e, me, he, hv⟩ := lookup_ent hs
  walk_at "st"
  refine x_kDGetS (.inl Tb.hd) hv ?_
  walk_at "st"
  have st := Tb.hs e me
  obtain ⟨dx, ho⟩ := id st.ob
  refine x_kMeth ho (fl_no (by decide +kernel)) ?_
  walk_at "st"
  refine ⟨e.a, e.t, e.r, e.f, e.s, rfl, st, ?_, fun q H3 s3 e3 => k q H3 ((s1.trans Tb.same).trans s3) (by rw [← he]; exact e3)⟩
  have hq := stands_all (x := 0) (y := 0) (z := 0) ok hn (e.k, e.s)
  exact hq (by rw [← hL]; exact List.mem_map.mpr ⟨e, me, rfl⟩)
/-! L5: what the league laws draw: numbers, names. -/
open PySem PySem.Spec PyProof.Rows L2
open Evl (tCut)
/-! ### the script's cells -/
def lawAt (ns : List Int) (k : Nat) : Int := ns.getD k 0
def spAt (K : PySem.W.Frag) : Sp := fun vs H Q _ => ∃ (a : Addr) (ns : List Int) (k : Nat), vs = [.ref a, .int (k : Int)] ∧ SqL K H a (ns.map V.int) ∧ Q (.int (lawAt ns k)) H
def N__law_at : List Str := ["_law_script", "_law_k"]
def t__law_at (K : PySem.W.Frag) : TS := (tSeq (tIfS (tTest (tOp nLt (tVar 1) (tCB (cLenQ K) (tCons (tVar 0) tNil))))
  (tRet (tOp (rIxL K) (tVar 0) (tVar 1)))
  tNext)
  (tRet (tC (.int 0))))
theorem rd_at (K : PySem.W.Frag) : Reads N__law_at (spAt K) (t__law_at K) := by
  rintro vs H Q E ⟨a, ns, j, rfl, ha, k⟩
  show t__law_at K _ [some (.ref a), some (.int (j : Int))] H
  unfold t__law_at
  walk_at "st"
  refine x_dec (fun h => ?_) (fun h => ?_)
  · rw [List.length_map] at h
    have hj : j < ns.length := by omega
    walk_at "st"
    refine x_ixL ha (atI_nat (v := .int (lawAt ns j)) ?_) k
    unfold lawAt
    rw [List.getElem?_map, List.getD_eq_getElem?_getD, List.getElem?_eq_getElem hj]
    rfl
  · rw [List.length_map] at h
    walk_at "st"
    have e : lawAt ns j = 0 := by
      unfold lawAt
      rw [List.getD_eq_getElem?_getD, List.getElem?_eq_none (by omega)]
      rfl
    rw [e] at k
    exact k
/-! ### mixing -/
def mixed (c k : Int) : Int :=
  (c % 2147483647 + 7 * k + 3) * 48271 % 2147483647 * ((c % 2147483647 + 7 * k + 3) * 48271 % 2147483647 % 40009 + k * k + 5) % 2147483629 / 3
def mixN (c k : Int) : Nat := (mixed c k).toNat
theorem mixed_nn (c k : Int) : 0 ≤ mixed c k := by unfold mixed; omega
theorem mixed_N (c k : Int) : mixed c k = (mixN c k : Int) := by unfold mixN; rw [Int.toNat_of_nonneg (mixed_nn c k)]
def spMixed : Sp := fun vs H Q _ => ∃ c k : Int, vs = [.int c, .int k] ∧ 0 ≤ k ∧ k ≤ 1000 ∧ Q (.int (mixN c k : Int)) H
def N__law_mixed : List Str := ["_law_cell", "_law_k", "_law_once"]
def t__law_mixed (K : PySem.W.Frag) : TS := (tSeq (tAsg (tOp nMod (tOp nMul (tOp nAdd (tOp nAdd (tOp nMod (tVar 0) (tC (.int 2147483647))) (tOp nMul (tC (.int 7)) (tVar 1))) (tC (.int 3))) (tC (.int 48271))) (tC (.int 2147483647))) (gName 2))
  (tRet (tOp nDiv (tOp nMod (tOp nMul (tVar 2) (tOp nAdd (tOp nAdd (tOp nMod (tVar 2) (tC (.int 40009))) (tOp nMul (tVar 1) (tVar 1))) (tC (.int 5)))) (tC (.int 2147483629))) (tC (.int 3)))))
theorem rd_mixed (K : PySem.W.Frag) : Reads N__law_mixed spMixed (t__law_mixed K) := by
  rintro vs H Q E ⟨c, k, rfl, h0, h1, q⟩
  show t__law_mixed K _ [some (.int c), some (.int k), none] H
  rw [← mixed_N] at q
  unfold t__law_mixed
  walk_at "st"
  exact q
/-! L6: the names. -/
open PySem PySem.Spec PyProof.Rows L2
open Evl (tCut)
/-! ### texts as lists of signs -/
def mk (l : List Nat) : Str := ⟨l.toArray⟩
theorem mk_app (a b : List Nat) : mk a ++ mk b = mk (a ++ b) := by
  show (⟨a.toArray ++ b.toArray⟩ : Str) = ⟨(a ++ b).toArray⟩
  simp
theorem mk_len (l : List Nat) : (mk l).length = l.length := by show l.toArray.size = _; simp
theorem mk_cps (l : List Nat) : (mk l).cps.toList = l := by show l.toArray.toList = l; simp
theorem mk_inj {a b : List Nat} (h : mk a = mk b) : a = b := by
  have e : (mk a).cps.toList = (mk b).cps.toList := by rw [h]
  rw [mk_cps, mk_cps] at e
  exact e
theorem mk_one (c : Nat) : (⟨#[c]⟩ : Str) = mk [c] := rfl
theorem cut_to (l : List Nat) (k : Nat) : cutS (mk l) none (some (k : Int)) = mk (l.take k) := by
  unfold cutS
  rw [mk_cps, mk_len, HT.sIx_none, HT.sIx_nat, List.drop_zero]
  unfold mk
  congr 2
  rw [Nat.sub_zero]
  by_cases h : k ≤ l.length
  · rw [Nat.min_eq_left h]
  · rw [Nat.min_eq_right (by omega), List.take_of_length_le (Nat.le_refl _), List.take_of_length_le (by omega)]
theorem cut_mid (l : List Nat) (i k : Nat) (h : i ≤ k) (hk : k ≤ l.length) : cutS (mk l) (some (i : Int)) (some (k : Int)) = mk ((l.drop i).take (k - i)) := by
  unfold cutS
  rw [mk_cps, mk_len, HT.sIx_nat, HT.sIx_nat, Nat.min_eq_left hk, Nat.min_eq_left (by omega)]
  rfl
def alpha : List Nat := [97, 98, 99, 100, 101, 102, 103, 104, 105, 106, 107, 108, 109, 110, 111, 112, 113, 114, 115, 116, 117, 118, 119, 120, 121, 122]
theorem alpha_is : ("abcdefghijklmnopqrstuvwxyz" : Str) = mk alpha := by decide +kernel
theorem zq_is : ("zq" : Str) = mk [122, 113] := by decide +kernel
theorem alpha_at : ∀ i : Nat, i < 26 → alpha[i]? = some (97 + i) := by decide +kernel
/-! ### a name -/
def stemC (n : Nat) : List Nat := [97 + n / 7 % 26, 97 + n / 182 % 26, 97 + n / 7 % 26, 97 + n / 182 % 26, 97 + n / 7 % 26, 97 + n / 182 % 26]
def nameC (n k : Nat) : List Nat :=
  (stemC n).take (n / 4732 % (n % 7 + 1)) ++ [97 + (n / 40000 % 26 + k) % 26] ++ ((stemC n).drop (n / 4732 % (n % 7 + 1))).take (n % 7 - n / 4732 % (n % 7 + 1)) ++ [if k < 26 then 122 else 113]
def namesOf (n many : Nat) : List Str := (List.range many).map fun k => mk (nameC n k)
def spNames (K : PySem.W.Frag) : Sp := fun vs H Q _ => ∃ (c : Int) (many : Nat), vs = [.int c, .int (many : Int)] ∧ many ≤ 52 ∧
  ∀ l H', H l = none → Same H H' → H' l = some (.lst ((namesOf (mixN c 11) many).map V.str)) → Q (.ref l) H'
theorem mul3 (a b : Nat) : Txt.mul (mk [a, b]) 3 = mk [a, b, a, b, a, b] := by
  unfold Txt.mul
  rw [if_neg (by decide), if_neg (by rw [mk_len]; simp)]
  rfl
theorem mul3_ok (a b : Nat) : MulOk (mk [a, b]) 3 := ⟨by decide, fun _ _ => by rw [mk_len]; show ¬ ((2 : Nat) : Int) > _; decide, fun _ _ => by rw [mk_len]; show Builtin.Str.tooLong (2 * Int.toNat 3) = false; decide⟩
theorem name_len (n k : Nat) : (nameC n k).length ≤ 14 := by
  unfold nameC stemC
  simp only [List.length_append, List.length_take, List.length_drop, List.length_cons, List.length_nil]
  omega
def N__law_names : List Str := ["_law_cell", "_law_many", "_law_letters", "_law_number", "_law_size", "_law_stem", "_law_at_here", "_law_shift", "_law_names_here", "_law_k", "_law_letter", "_law_word"]
def t__law_names (K : PySem.W.Frag) : TS := (tSeq (tAsg (tC (.str "abcdefghijklmnopqrstuvwxyz")) (gName 2))
  (tSeq (tAsg (tCall spMixed [] E0 (tCons (tVar 0) (tCons (tC (.int 11)) tNil))) (gName 3))
  (tSeq (tAsg (tOp nMod (tVar 3) (tC (.int 7))) (gName 4))
  (tSeq (tAsg (tOp sMul (tOp sAdd (tOp rIxS (tVar 2) (tOp nMod (tOp nDiv (tVar 3) (tC (.int 7))) (tC (.int 26)))) (tOp rIxS (tVar 2) (tOp nMod (tOp nDiv (tVar 3) (tC (.int 182))) (tC (.int 26))))) (tC (.int 3))) (gName 5))
  (tSeq (tAsg (tOp nMod (tOp nDiv (tVar 3) (tC (.int 4732))) (tOp nAdd (tVar 4) (tC (.int 1)))) (gName 6))
  (tSeq (tAsg (tOp nMod (tOp nDiv (tVar 3) (tC (.int 40000))) (tC (.int 26))) (gName 7))
  (tSeq (tAsg (tLst tNil) (gName 8))
  (tSeq (tFor (iRng1 (tCons (tVar 1) tNil)) (gName 9)
  (tSeq (tAsg (tOp rIxS (tVar 2) (tOp nMod (tOp nAdd (tVar 7) (tVar 9)) (tC (.int 26)))) (gName 10))
  (tSeq (tAsg (tOp sAdd (tSl rSlS (tVar 5) tNoPart (tPart (tVar 6))) (tVar 10)) (gName 11))
  (tDrop (tBM K "list" rAppend (tVar 8) (tCons (tOp sAdd (tOp sAdd (tVar 11) (tSl rSlS (tVar 5) (tPart (tVar 6)) (tPart (tVar 4)))) (tOp rIxS (tC (.str "zq")) (tOp nDiv (tVar 9) (tC (.int 26))))) tNil))))))
  (tRet (tVar 8))))))))))
theorem rd_names (K : PySem.W.Frag) : Reads N__law_names (spNames K) (t__law_names K) := by
  rintro vs H Q E ⟨c, many, rfl, hm, k⟩
  show t__law_names K _ [some (.int c), some (.int (many : Int)), none, none, none, none, none, none, none, none, none, none] H
  unfold t__law_names
  walk_at "st"
  refine ⟨c, 11, rfl, by decide, by decide, ?_⟩
  walk_at "st"
  generalize mixN c 11 = n at k ⊢
  rw [alpha_is]
  have lz : (mk alpha).length ≤ 100000 := by rw [mk_len]; decide
  have al : ∀ i : Nat, i < 26 → atI (mk alpha).cps.toList (i : Int) = some (97 + i) := fun i h => atI_nat (by rw [mk_cps]; exact alpha_at i h)
  refine x_ixS lz (al (n / 7 % 26) (by omega)) ?_
  walk_at "st"
  refine x_ixS lz (al (n / 182 % 26) (by omega)) ?_
  rw [mk_one, mk_one]
  refine x_sAdd (by rw [mk_len, mk_len]; simp) ?_
  rw [mk_app]
  walk_at "st"
  refine x_sMul (mul3_ok _ _) ?_
  rw [show ([97 + n / 7 % 26] ++ [97 + n / 182 % 26] : List Nat) = [97 + n / 7 % 26, 97 + n / 182 % 26] from rfl, mul3]
  walk_at "st"
  refine x_kLst (by walk_at "len") fun l H1 n1 s1 e1 => ?_
  walk_at "st"
  have sl : (stemC n).length = 6 := rfl
  have hz : n % 7 ≤ 6 := by omega
  have ha : n / 4732 % (n % 7 + 1) ≤ n % 7 := by have := Nat.mod_lt (n / 4732) (show 0 < n % 7 + 1 by omega); omega
  refine x_kForR (n := many) (by omega) (by omega) (fun i σ H2 => ∃ a b d : Option V, σ = [some (.int c), some (.int (many : Int)), some (.str (mk alpha)), some (.int (n : Int)), some (.int ((n % 7 : Nat) : Int)), some (.str (mk (stemC n))),
      some (.int ((n / 4732 % (n % 7 + 1) : Nat) : Int)), some (.int ((n / 40000 % 26 : Nat) : Int)), some (.ref l), a, b, d] ∧ Same H H2 ∧ H2 l = some (.lst ((namesOf n i).map V.str))) ⟨none, none, none, rfl, s1, e1⟩ ?_ ?_
  · rintro i σ H2 hi ⟨a, b, d, rfl, s2, e2⟩
    walk_at "st"
    refine x_ixS lz (al ((n / 40000 % 26 + i) % 26) (by omega)) ?_
    rw [mk_one]
    walk_at "st"
    refine x_slS (by rw [mk_len, sl]; decide) ?_
    rw [cut_to]
    walk_at "st"
    refine x_sAdd (by rw [mk_len, mk_len, List.length_take, sl]; simp; omega) ?_
    rw [mk_app]
    walk_at "st"
    refine x_slS (by rw [mk_len, sl]; decide) ?_
    rw [cut_mid _ _ _ ha (by omega)]
    refine x_sAdd ?_ ?_
    · rw [mk_len, mk_len]
      simp only [List.length_append, List.length_take, List.length_drop, sl, List.length_cons, List.length_nil]
      omega
    rw [mk_app]
    walk_at "st"
    rw [zq_is]
    refine x_ixS (c := if i < 26 then 122 else 113) (by rw [mk_len]; decide) ?_ ?_
    · rw [mk_cps]
      by_cases h : i < 26
      · rw [if_pos h]
        exact atI_nat (j := i / 26) (by rw [Nat.div_eq_of_lt h]; rfl)
      · rw [if_neg h]
        exact atI_nat (j := i / 26) (by rw [show i / 26 = 1 by omega]; rfl)
    rw [mk_one]
    refine x_sAdd ?_ ?_
    · rw [mk_len, mk_len]
      simp only [List.length_append, List.length_take, List.length_drop, sl, List.length_cons, List.length_nil]
      omega
    rw [mk_app]
    walk_at "st"
    refine x_append e2 (by rw [List.length_map]; unfold namesOf; rw [List.length_map, List.length_range]; omega) fun H3 b3 e3 => ?_
    refine ⟨_, _, _, rfl, Same.but s2 n1 b3, ?_⟩
    rw [e3]
    unfold namesOf
    rw [List.range_succ, List.map_append, List.map_append]
    rfl
  · rintro σ H2 ⟨a, b, d, rfl, s2, e2⟩
    walk_at "st"
    exact k l H2 n1 s2 e2
/-! L7: breakers, games, the league drawn. -/
open PySem PySem.Spec PyProof.Rows L2
open Evl (tCut)
/-! ### lists of ints, of texts, read by place -/
def getI (l : List Int) (i : Int) : Int := l.getD i.toNat 0
theorem at_getI {l : List Int} {i : Int} (h0 : 0 ≤ i) (h1 : i < l.length) : atI (l.map V.int) i = some (.int (getI l i)) := by
  obtain ⟨j, rfl⟩ := Int.eq_ofNat_of_zero_le h0
  have hj : j < l.length := by omega
  refine atI_nat ?_
  unfold getI
  rw [List.getElem?_map, List.getElem?_eq_getElem hj, Int.toNat_natCast, List.getD_eq_getElem?_getD, List.getElem?_eq_getElem hj]
  rfl
theorem getI_mem {l : List Int} {i : Int} (h0 : 0 ≤ i) (h1 : i < l.length) : getI l i ∈ l := by
  unfold getI
  rw [List.getD_eq_getElem?_getD, List.getElem?_eq_getElem (by omega)]
  exact List.getElem_mem _
def getS (l : List Str) (i : Int) : Str := l.getD i.toNat (mk [])
theorem at_getS {l : List Str} {i : Int} (h0 : 0 ≤ i) (h1 : i < l.length) : atI (l.map V.str) i = some (.str (getS l i)) := by
  obtain ⟨j, rfl⟩ := Int.eq_ofNat_of_zero_le h0
  have hj : j < l.length := by omega
  refine atI_nat ?_
  unfold getS
  rw [List.getElem?_map, List.getElem?_eq_getElem hj, Int.toNat_natCast, List.getD_eq_getElem?_getD, List.getElem?_eq_getElem hj]
  rfl
theorem getS_mem {l : List Str} {i : Int} (h0 : 0 ≤ i) (h1 : i < l.length) : getS l i ∈ l := by
  unfold getS
  rw [List.getD_eq_getElem?_getD, List.getElem?_eq_getElem (by omega)]
  exact List.getElem_mem _
/-! ### breakers -/
def brkWords : List Str := ["wins", "rate", "runs", "name"]
structure BrkOk (bs : List Str) : Prop where
  nd : bs.Nodup
  sub : ∀ b ∈ bs, b ∈ brkWords
  len : 1 ≤ bs.length ∧ bs.length ≤ 4
def spBreakers (K : PySem.W.Frag) : Sp := fun vs H Q _ => ∃ n : Int, vs = [.int n] ∧ ∀ l H' bs, H l = none → Same H H' → H' l = some (.lst (bs.map V.str)) → BrkOk bs → Q (.ref l) H'
theorem cons_erase {α : Type} : ∀ (l : List α) (k : Nat) (h : k < l.length), (l[k] :: l.eraseIdx k).Perm l
  | a :: r, 0, _ => List.Perm.refl _
  | a :: r, k + 1, h => by
    show ((r[k]'(Nat.lt_of_succ_lt_succ h)) :: a :: r.eraseIdx k).Perm (a :: r)
    exact (List.Perm.swap _ _ _).trans (List.Perm.cons a (cons_erase r k (Nat.lt_of_succ_lt_succ h)))
theorem erase_map {α β : Type} (f : α → β) : ∀ (l : List α) (k : Nat), (l.map f).eraseIdx k = (l.eraseIdx k).map f
  | [], _ => by simp
  | a :: r, 0 => rfl
  | a :: r, k + 1 => by
    show f a :: (r.map f).eraseIdx k = f a :: (r.eraseIdx k).map f
    rw [erase_map f r k]
theorem erase_perm (l : List Str) (k : Nat) (x : Str) (h : l[k]? = some x) (bs : List Str) (nd : (bs ++ l).Nodup) (hs : ∀ b, b ∈ bs ++ l → b ∈ brkWords) : ((bs ++ [x]) ++ l.eraseIdx k).Nodup ∧ ∀ b, b ∈ (bs ++ [x]) ++ l.eraseIdx k → b ∈ brkWords := by
  have hk : k < l.length := (List.getElem?_eq_some_iff.mp h).1
  have hx : l[k] = x := (List.getElem?_eq_some_iff.mp h).2
  have p : ((bs ++ [x]) ++ l.eraseIdx k).Perm (bs ++ l) := by
    rw [List.append_assoc]
    refine List.Perm.append_left bs ?_
    rw [← hx]
    exact cons_erase l k hk
  exact ⟨p.nodup_iff.mpr nd, fun b hb => hs b (p.mem_iff.mp hb)⟩
def N__law_breakers : List Str := ["_law_n", "_law_some", "_law_told", "_law_k"]
def t__law_breakers (K : PySem.W.Frag) : TS := (tSeq (tAsg (tLst (tCons (tC (.str "wins")) (tCons (tC (.str "rate")) (tCons (tC (.str "runs")) (tCons (tC (.str "name")) tNil))))) (gName 1))
  (tSeq (tAsg (tLst tNil) (gName 2))
  (tSeq (tFor (iRng1 (tCons (tOp nAdd (tC (.int 1)) (tOp nMod (tVar 0) (tC (.int 4)))) tNil)) (gName 3)
  (tSeq (tDrop (tBM K "list" rAppend (tVar 2) (tCons (tBM K "list" rPopAt (tVar 1) (tCons (tOp nMod (tOp nDiv (tVar 0) (tC (.int 4))) (tCB (cLenQ K) (tCons (tVar 1) tNil))) tNil)) tNil)))
  (tAsg (tOp nDiv (tVar 0) (tC (.int 4))) (gName 0))))
  (tRet (tVar 2)))))
theorem rd_breakers (K : PySem.W.Frag) : Reads N__law_breakers (spBreakers K) (t__law_breakers K) := by
  rintro vs H Q E ⟨n, rfl, k⟩
  show t__law_breakers K _ [some (.int n), none, none, none] H
  unfold t__law_breakers
  walk_at "st"
  refine x_kLst (by walk_at "len") fun l1 H1 n1 s1 e1 => ?_
  walk_at "st"
  refine x_kLst (by walk_at "len") fun l2 H2 n2 s2 e2 => ?_
  have ne : l1 ≠ l2 := ne_of_none e1 n2
  have e12 := s2 _ _ e1
  walk_at "st"
  refine x_kForR (n := (1 + n % 4).toNat) rfl (by omega) (fun i σ H3 => ∃ (n' : Int) (a : Option V) (some_ bs : List Str), σ = [some (.int n'), some (.ref l1), some (.ref l2), a] ∧ Same H H3 ∧ H3 l1 = some (.lst (some_.map V.str)) ∧ H3 l2 = some (.lst (bs.map V.str)) ∧
    some_.length + i = 4 ∧ bs.length = i ∧ (bs ++ some_).Nodup ∧ ∀ b, b ∈ bs ++ some_ → b ∈ brkWords) ⟨n, none, brkWords, [], rfl, s1.trans s2, e12, e2, rfl, rfl, by decide +kernel, fun b h => h⟩ ?_ ?_
  · rintro i σ H3 hi ⟨n', a, sm, bs, rfl, s3, e31, e32, h1, h2, h3, h4⟩
    have hi4 : i < 4 := by omega
    walk_at "st"
    rw [List.length_map]
    refine x_nMod (by omega) ?_
    have hlt : (n' / 4) % (sm.length : Int) < sm.length := Int.emod_lt_of_pos _ (by omega)
    have hge : 0 ≤ (n' / 4) % (sm.length : Int) := Int.emod_nonneg _ (by omega)
    obtain ⟨j, hj⟩ := Int.eq_ofNat_of_zero_le hge
    have hjl : j < sm.length := by omega
    rw [hj]
    walk_at "st"
    refine x_popAt (v := .str sm[j]) (k := j) e31 (by omega) (by omega) (by rw [List.length_map]; exact seqIndex_of (by omega) (by omega)) (by rw [List.getElem?_map, List.getElem?_eq_getElem hjl]; rfl) fun H4 b4 e4 => ?_
    have e42 := b4 _ _ ne.symm e32
    walk_at "st"
    refine x_append e42 (by rw [List.length_map]; omega) fun H5 b5 e5 => ?_
    have e51 := b5 _ _ ne e4
    walk_at "st"
    obtain ⟨p1, p2⟩ := erase_perm sm j sm[j] (List.getElem?_eq_getElem hjl) bs h3 h4
    refine ⟨_, _, sm.eraseIdx j, bs ++ [sm[j]], rfl, ?_, ?_, ?_, ?_, ?_, p1, p2⟩
    · exact Same.but (Same.but s3 (Same.none (Same.refl _) (Same.none (Same.refl _) n1)) b4) (Same.none s1 n2) b5
    · rw [e51, erase_map]
    · rw [e5, List.map_append]; rfl
    · rw [List.length_eraseIdx_of_lt hjl]; omega
    · rw [List.length_append]; simp; omega
  · rintro σ H3 ⟨n', a, sm, bs, rfl, s3, e31, e32, h1, h2, h3, h4⟩
    walk_at "st"
    refine k l2 H3 bs (Same.none s1 n2) s3 e32 ⟨(List.nodup_append.mp h3).1, fun b hb => h4 b (List.mem_append.mpr (.inl hb)), ?_⟩
    omega
/-! L8: games, the league drawn. -/
open PySem PySem.Spec PyProof.Rows L2
open Evl (tCut)
structure GameIn (names : List Str) (g : Game) : Prop where
  ok : GameOk g
  ia : g.a ∈ names
  ib : g.b ∈ names
  ne : g.a ≠ g.b
theorem getS_ne {l : List Str} (nd : l.Nodup) {i j : Int} (h0 : 0 ≤ i) (h1 : i < l.length) (h2 : 0 ≤ j) (h3 : j < l.length) (n : i ≠ j) : getS l i ≠ getS l j := by
  unfold getS
  rw [List.getD_eq_getElem?_getD, List.getD_eq_getElem?_getD, List.getElem?_eq_getElem (by omega), List.getElem?_eq_getElem (by omega)]
  intro e
  have e2 : l[i.toNat]'(by omega) = l[j.toNat]'(by omega) := e
  have := (List.getElem_inj nd).mp e2
  omega
theorem two_ne {L one t : Int} (h0 : 0 ≤ one) (h1 : one < L) (h2 : 0 ≤ t) (h3 : t < L - 1) : one ≠ (one + 1 + t) % L := by
  intro e
  by_cases c : one + 1 + t < L
  · rw [Int.emod_eq_of_lt (by omega) c] at e
    omega
  · have e2 : (one + 1 + t) % L = one + 1 + t - L := by
      rw [← Int.sub_emod_right, Int.emod_eq_of_lt (by omega) (by omega)]
    omega
def spSmall (K : PySem.W.Frag) : Sp := fun vs H Q _ => ∃ (a : Addr) (names : List Str) (n : Int), vs = [.ref a, .int n] ∧ SqL K H a (names.map V.str) ∧ 2 ≤ names.length ∧ names.length ≤ 100 ∧ names.Nodup ∧
  ∀ q H' g, Same H H' → H q = none → H' q = some (.tup (gameV g)) → GameIn names g → Q (.ref q) H'
theorem getI_all {P : Int → Prop} {l : List Int} {i : Int} (h : ∀ x ∈ l, P x) (h0 : 0 ≤ i) (h1 : i < l.length) : P (getI l i) := h _ (getI_mem h0 h1)
def N__law_small_game : List Str := ["_law_names_here", "_law_n", "_law_one", "_law_two", "_law_runs", "_law_balls", "_law_against"]
def t__law_small_game (K : PySem.W.Frag) : TS := (tSeq (tAsg (tOp nMod (tVar 1) (tCB (cLenQ K) (tCons (tVar 0) tNil))) (gName 2))
  (tSeq (tAsg (tOp nMod (tOp nAdd (tOp nAdd (tVar 2) (tC (.int 1))) (tOp nMod (tOp nDiv (tVar 1) (tC (.int 8))) (tOp nSub (tCB (cLenQ K) (tCons (tVar 0) tNil)) (tC (.int 1))))) (tCB (cLenQ K) (tCons (tVar 0) tNil))) (gName 3))
  (tSeq (tAsg (tOp (rIxL K) (tLst (tCons (tOp nMod (tOp nDiv (tVar 1) (tC (.int 100))) (tC (.int 4))) (tCons (tOp nMod (tOp nDiv (tVar 1) (tC (.int 100))) (tC (.int 40))) (tCons (tC (.int 9999)) (tCons (tC (.int 0)) tNil))))) (tOp nMod (tOp nDiv (tVar 1) (tC (.int 57))) (tC (.int 4)))) (gName 4))
  (tSeq (tAsg (tOp (rIxL K) (tLst (tCons (tC (.int 1)) (tCons (tC (.int 2)) (tCons (tC (.int 3)) (tCons (tC (.int 6)) tNil))))) (tOp nMod (tOp nDiv (tVar 1) (tC (.int 4000))) (tC (.int 4)))) (gName 5))
  (tSeq (tAsg (tOp (rIxL K) (tLst (tCons (tVar 4) (tCons (tOp nMod (tOp nDiv (tVar 1) (tC (.int 16000))) (tC (.int 4))) (tCons (tOp nMod (tOp nDiv (tVar 1) (tC (.int 16000))) (tC (.int 40))) tNil)))) (tOp nMod (tOp nDiv (tVar 1) (tC (.int 7))) (tC (.int 3)))) (gName 6))
  (tRet (tTup (tCons (tOp (rIxL K) (tVar 0) (tVar 2)) (tCons (tVar 4) (tCons (tVar 5) (tCons (tOp (rIxL K) (tVar 0) (tVar 3)) (tCons (tVar 6) (tCons (tOp (rIxL K) (tLst (tCons (tVar 5) (tCons (tC (.int 1)) (tCons (tC (.int 6)) (tCons (tC (.int 9999)) tNil))))) (tOp nMod (tOp nDiv (tVar 1) (tC (.int 11))) (tC (.int 4)))) tNil)))))))))))))
theorem rd_small (K : PySem.W.Frag) : Reads N__law_small_game (spSmall K) (t__law_small_game K) := by
  rintro vs H Q E ⟨a, names, n, rfl, ha, l2, l100, nd, k⟩
  show t__law_small_game K _ [some (.ref a), some (.int n), none, none, none, none, none] H
  unfold t__law_small_game
  have hlen : (names.map V.str).length = names.length := List.length_map ..
  have o0 : 0 ≤ n % (names.length : Int) := Int.emod_nonneg _ (by omega)
  have o1 : n % (names.length : Int) < names.length := Int.emod_lt_of_pos _ (by omega)
  have t0 : 0 ≤ n / 8 % ((names.length : Int) - 1) := Int.emod_nonneg _ (by omega)
  have t1 : n / 8 % ((names.length : Int) - 1) < (names.length : Int) - 1 := Int.emod_lt_of_pos _ (by omega)
  have w0 : 0 ≤ (n % (names.length : Int) + 1 + n / 8 % ((names.length : Int) - 1)) % (names.length : Int) := Int.emod_nonneg _ (by omega)
  have w1 : (n % (names.length : Int) + 1 + n / 8 % ((names.length : Int) - 1)) % (names.length : Int) < names.length := Int.emod_lt_of_pos _ (by omega)
  have wn := two_ne o0 o1 t0 t1
  have gn := getS_ne nd o0 o1 w0 w1 wn
  have ga1 := getS_mem o0 o1
  have gb1 := getS_mem w0 w1
  have aa := at_getS o0 o1
  have ab := at_getS w0 w1
  walk_at "st"
  rw [hlen]
  walk_at "st"
  refine x_kLst (by walk_at "len") fun p1 H1 n1 s1 e1 => ?_
  walk_at "st"
  refine x_ixL (SqL.of e1) (at_getI (l := [n / 100 % 4, n / 100 % 40, 9999, 0]) (i := n / 57 % 4) (by omega) (by simp; omega)) ?_
  have g1 : 0 ≤ getI [n / 100 % 4, n / 100 % 40, 9999, 0] (n / 57 % 4) ∧ getI [n / 100 % 4, n / 100 % 40, 9999, 0] (n / 57 % 4) ≤ 9999 := getI_all (P := fun x => 0 ≤ x ∧ x ≤ 9999) (by simp; omega) (by omega) (by simp; omega)
  generalize getI [n / 100 % 4, n / 100 % 40, 9999, 0] (n / 57 % 4) = r at g1 ⊢
  walk_at "st"
  refine x_kLst (by walk_at "len") fun p2 H2 n2 s2 e2 => ?_
  walk_at "st"
  refine x_ixL (SqL.of e2) (at_getI (l := [1, 2, 3, 6]) (i := n / 4000 % 4) (by omega) (by simp; omega)) ?_
  have g2 : 1 ≤ getI [1, 2, 3, 6] (n / 4000 % 4) ∧ getI [1, 2, 3, 6] (n / 4000 % 4) ≤ 9999 := getI_all (P := fun x => 1 ≤ x ∧ x ≤ 9999) (by decide) (by omega) (by simp; omega)
  generalize getI [1, 2, 3, 6] (n / 4000 % 4) = b at g2 ⊢
  walk_at "st"
  refine x_kLst (by walk_at "len") fun p3 H3 n3 s3 e3 => ?_
  walk_at "st"
  refine x_ixL (SqL.of e3) (at_getI (l := [r, n / 16000 % 4, n / 16000 % 40]) (i := n / 7 % 3) (by omega) (by simp; omega)) ?_
  have g3 : 0 ≤ getI [r, n / 16000 % 4, n / 16000 % 40] (n / 7 % 3) ∧ getI [r, n / 16000 % 4, n / 16000 % 40] (n / 7 % 3) ≤ 9999 := getI_all (P := fun x => 0 ≤ x ∧ x ≤ 9999) (by simp; omega) (by omega) (by simp; omega)
  generalize getI [r, n / 16000 % 4, n / 16000 % 40] (n / 7 % 3) = s at g3 ⊢
  have ha3 := s3.seq (s2.seq (s1.seq ha))
  walk_at "st"
  refine x_kLst (by walk_at "len") fun p4 H4 n4 s4 e4 => ?_
  walk_at "st"
  refine x_ixL (SqL.of e4) (at_getI (l := [b, 1, 6, 9999]) (i := n / 11 % 4) (by omega) (by simp; omega)) ?_
  have g4 : 1 ≤ getI [b, 1, 6, 9999] (n / 11 % 4) ∧ getI [b, 1, 6, 9999] (n / 11 % 4) ≤ 9999 := getI_all (P := fun x => 1 ≤ x ∧ x ≤ 9999) (by simp; omega) (by omega) (by simp; omega)
  generalize getI [b, 1, 6, 9999] (n / 11 % 4) = m at g4 ⊢
  walk_at "st"
  refine x_kTup (by walk_at "len") fun q H5 n5 s5 e5 => ?_
  exact k q H5 ⟨_, r, b, _, s, m⟩ (by walk_at "sm") (by walk_at "fr") e5 ⟨⟨g1, g2, g3, g4⟩, ga1, gb1, gn⟩
/-! L9: the league drawn. -/
open PySem PySem.Spec PyProof.Rows L2
open Evl (tCut)
theorem GsRel.but {K : PySem.W.Frag} {H H' : Hp} {vs xs : List V} {gs : List Game} {p : Addr} (h : GsRel K H vs gs) (b : But p H H') (e : H p = some (.lst xs)) : GsRel K H' vs gs := ⟨h.1, fun i g q => let ⟨t, a, c⟩ := h.2 i g q; ⟨t, a, But.sqT b c e⟩⟩
theorem GsRel.snoc {K : PySem.W.Frag} {H : Hp} {vs : List V} {gs : List Game} {q : Addr} {g : Game} (h : GsRel K H vs gs) (e : SqT K H q (gameV g)) : GsRel K H (vs ++ [.ref q]) (gs ++ [g]) := by
  refine ⟨by rw [List.length_append, List.length_append, h.1]; rfl, fun i g' hi => ?_⟩
  by_cases c : i < gs.length
  · rw [List.getElem?_append_left c] at hi
    obtain ⟨t, a, b⟩ := h.2 i g' hi
    exact ⟨t, by rw [List.getElem?_append_left (by rw [h.1]; exact c)]; exact a, b⟩
  · have hl : i < (gs ++ [g]).length := (List.getElem?_eq_some_iff.mp hi).1
    rw [List.length_append] at hl
    have e1 : i = gs.length := by simp at hl; omega
    subst e1
    have e2 : g = g' := by simpa using hi
    subst e2
    exact ⟨q, by rw [← h.1]; simp, e⟩
theorem GsRel.nil {K : PySem.W.Frag} {H : Hp} : GsRel K H [] [] := ⟨rfl, fun i g h => by simp at h⟩
/-- at l a list of games, made since H0: at most `most` of them -/
structure GsL (K : PySem.W.Frag) (H0 H : Hp) (l : Addr) (names : List Str) (us : List V) (gs : List Game) : Prop where
  same : Same H0 H
  hl : H l = some (.lst us)
  rel : GsRel K H us gs
  ok : ∀ g ∈ gs, GameIn names g
theorem GsL.step {K : PySem.W.Frag} {H0 H H' : Hp} {l : Addr} {names : List Str} {us : List V} {gs : List Game} (h : GsL K H0 H l names us gs) (s : Same H H') : GsL K H0 H' l names us gs := ⟨h.same.trans s, s _ _ h.hl, h.rel.same s, h.ok⟩
theorem GsL.snoc {K : PySem.W.Frag} {H0 H H' : Hp} {l q : Addr} {names : List Str} {us : List V} {gs : List Game} {g : Game} (h : GsL K H0 H l names us gs) (n : H0 l = none) (eq : SqT K H q (gameV g)) (gi : GameIn names g) (b : But l H H') (e : H' l = some (.lst (us ++ [.ref q]))) :
    GsL K H0 H' l names (us ++ [.ref q]) (gs ++ [g]) := ⟨Same.but h.same n b, e, (h.rel.snoc eq).but b h.hl, fun x hx => by
  rcases List.mem_append.mp hx with m | m
  · exact h.ok x m
  · rw [List.mem_singleton.mp m]; exact gi⟩
def spGames (K : PySem.W.Frag) : Sp := fun vs H Q _ => ∃ (a b : Addr) (ns : List Int) (names : List Str) (most : Nat), vs = [.ref a, .ref b, .int (most : Int)] ∧ SqL K H a (ns.map V.int) ∧ ns.length ≤ 63 ∧ SqL K H b (names.map V.str) ∧ 2 ≤ names.length ∧ names.length ≤ 100 ∧ names.Nodup ∧ most ≤ 1000 ∧
  ∀ l H' us gs, H l = none → GsL K H H' l names us gs → gs.length ≤ most → Q (.ref l) H'
def N__law_games : List Str := ["_law_script", "_law_names_here", "_law_most", "_law_games_here", "_law_k", "_law_cell", "_law_x", "_law_one", "_law_two", "_law_mine"]
def t__law_games (K : PySem.W.Frag) : TS := (tSeq (tAsg (tLst tNil) (gName 3))
  (tSeq (tIfS (tTest (tOp rEq (tOp nMod (tCall (spAt K) [] E0 (tCons (tVar 0) (tCons (tC (.int 0)) tNil))) (tC (.int 2))) (tC (.int 1))))
  (tSeq (tFor (iEnum K (tCons (tSl (rSlL K) (tSl (rSlL K) (tVar 0) (tPart (tC (.int 2))) tNoPart) tNoPart (tPart (tVar 2))) tNil)) (gTup K 2 (gCons (gName 4) (gCons (gName 5) gNil)))
  (tDrop (tBM K "list" rAppend (tVar 3) (tCons (tCall (spSmall K) [] E0 (tCons (tVar 1) (tCons (tCall spMixed [] E0 (tCons (tCall spMixed [] E0 (tCons (tVar 5) (tCons (tVar 4) tNil))) (tCons (tOp nAdd (tVar 4) (tC (.int 1))) tNil))) tNil))) tNil))))
  (tRet (tVar 3)))
  tNext)
  (tSeq (tFor (iList K (tSl (rSlL K) (tVar 0) (tPart (tC (.int 2))) tNoPart)) (gName 5)
  (tSeq (tAsg (tVar 5) (gName 6))
  (tWhile (tAnd (tTest (tOp rNe (tVar 6) (tC (.int 0)))) (tAnd (tTest (tOp rNe (tVar 6) (tUn uNeg (tC (.int 1))))) (tTest (tOp nLt (tCB (cLenQ K) (tCons (tVar 3) tNil)) (tVar 2)))))
  (tSeq (tAsg (tOp nMod (tVar 6) (tCB (cLenQ K) (tCons (tVar 1) tNil))) (gName 7))
  (tSeq (tAsg (tOp nMod (tOp nAdd (tOp nAdd (tVar 7) (tC (.int 1))) (tOp nMod (tOp nDiv (tVar 6) (tC (.int 8))) (tOp nSub (tCB (cLenQ K) (tCons (tVar 1) tNil)) (tC (.int 1))))) (tCB (cLenQ K) (tCons (tVar 1) tNil))) (gName 8))
  (tSeq (tAsg (tTup (tCons (tOp (rIxL K) (tVar 1) (tVar 7)) (tCons (tOp nMod (tOp nDiv (tVar 6) (tC (.int 64))) (tC (.int 10000))) (tCons (tOp nAdd (tC (.int 1)) (tOp nMod (tOp nDiv (tVar 6) (tC (.int 640000))) (tC (.int 9999)))) tNil)))) (gName 9))
  (tSeq (tDrop (tBM K "list" rAppend (tVar 3) (tCons (tOp (rCatA K) (tVar 9) (tTup (tCons (tOp (rIxL K) (tVar 1) (tVar 8)) (tCons (tOp nMod (tOp nDiv (tVar 6) (tC (.int 6400000000))) (tC (.int 10000))) (tCons (tOp nAdd (tC (.int 1)) (tOp nMod (tOp nDiv (tVar 6) (tOp nMul (tC (.int 64)) (tOp nPow (tC (.int 10)) (tC (.int 12))))) (tC (.int 9999)))) tNil))))) tNil)))
  (tAsg (tOp nDiv (tVar 6) (tOp nMul (tC (.int 64)) (tOp nPow (tC (.int 10)) (tC (.int 16))))) (gName 6)))))))))
  (tRet (tVar 3)))))
theorem rd_games (K : PySem.W.Frag) : Reads N__law_games (spGames K) (t__law_games K) := by
  rintro vs H Q E ⟨a, b, ns, names, most, rfl, ha, h63, hb, l2, l100, nd, hmost, k⟩
  show t__law_games K _ [some (.ref a), some (.ref b), some (.int (most : Int)), none, none, none, none, none, none, none] H
  unfold t__law_games
  have hlen : (names.map V.str).length = names.length := List.length_map ..
  walk_at "st"
  refine x_kLst (by walk_at "len") fun l H1 n1 s1 e1 => ?_
  walk_at "st"
  have ha1 := s1.seq ha
  have hb1 := s1.seq hb
  refine ⟨a, ns, 0, rfl, ha1, ?_⟩
  walk_at "st"
  refine x_dec (fun c => ?_) (fun c => ?_)
  · walk_at "st"
    refine x_slL ha1 fun c1 H2 m2 s2 e2 => ?_
    walk_at "st"
    refine x_slL (SqL.of e2) fun c2 H3 m3 s3 e3 => ?_
    rw [cutV_map, cutV_map, cutL_to, show (some 2 : Option Int) = some ((2 : Nat) : Int) from rfl, cutL_from] at e3
    walk_at "st"
    have hne : c2 ≠ l := (ne_of_none (s2 _ _ e1) m3).symm
    have tl : ((ns.drop 2).take most).length ≤ most := by rw [List.length_take]; omega
    have tl2 : ((ns.drop 2).take most).length ≤ 63 := by rw [List.length_take, List.length_drop]; omega
    generalize (ns.drop 2).take most = cs at e3 tl tl2
    refine x_kForE (SqL.of e3) (fun i σ H4 => ∃ (x y z u v w : Option V) (us : List V) (gs : List Game), σ = [some (.ref a), some (.ref b), some (.int (most : Int)), some (.ref l), x, y, z, u, v, w] ∧ GsL K H H4 l names us gs ∧ H4 c2 = some (.lst (cs.map V.int)) ∧ gs.length = i)
      ⟨_, _, _, _, _, _, [], [], rfl, ⟨(s1.trans s2).trans s3, s3 _ _ (s2 _ _ e1), GsRel.nil, by simp⟩, e3, rfl⟩ (fun i σ H4 _ ⟨_, _, _, _, _, _, us, gs, _, _, q, _⟩ => SqL.of q) ?_ ?_
    · rintro i x σ H4 p H5 hx ⟨_, _, _, _, _, _, us, gs, rfl, G, q, hi⟩ n5 s5 e5
      have hi2 : i < (cs.map V.int).length := (List.getElem?_eq_some_iff.mp hx).1
      rw [List.length_map] at hi2
      obtain rfl : x = .int cs[i] := by
        rw [List.getElem?_map, List.getElem?_eq_getElem hi2] at hx
        exact (Option.some.inj hx).symm
      refine x_gtup (SqT.of e5) rfl ?_
      walk_at "st"
      refine x_tyL (SqL.of (s5 _ _ G.hl)) ?_
      walk_at "st"
      refine ⟨cs[i], i, rfl, by omega, by omega, ?_⟩
      walk_at "st"
      refine ⟨(mixN cs[i] i : Int), (i : Int) + 1, rfl, by omega, by omega, ?_⟩
      walk_at "st"
      have G5 := G.step s5
      refine ⟨b, names, _, rfl, Same.seq G5.same hb, l2, l100, nd, fun r H6 g s6 n6 e6 gi => ?_⟩
      walk_at "st"
      have G6 := G5.step s6
      refine x_append G6.hl (by rw [G6.rel.1]; omega) fun H7 b7 e7 => ?_
      exact ⟨_, _, _, _, _, _, us ++ [.ref r], gs ++ [g], rfl, G6.snoc n1 (SqT.of e6) gi b7 e7, b7 _ _ hne (s6 _ _ (s5 _ _ q)), by rw [List.length_append]; simp; omega⟩
    · rintro σ H4 ⟨_, _, _, _, _, _, us, gs, rfl, G, q, hi⟩
      walk_at "st"
      exact k l H4 us gs n1 G (by rw [hi, List.length_map]; exact tl)
  · walk_at "st"
    refine x_slL ha1 fun c1 H2 m2 s2 e2 => ?_
    rw [cutV_map] at e2
    have tl : (cutL ns (some 2) none).length ≤ 63 := Nat.le_trans (cutL_len _ _ _) h63
    generalize cutL ns (some 2) none = cs at e2 tl
    have hne : c1 ≠ l := (ne_of_none e1 m2).symm
    refine x_kForL (SqL.of e2) (fun i σ H4 => ∃ (x y z u v w : Option V) (us : List V) (gs : List Game), σ = [some (.ref a), some (.ref b), some (.int (most : Int)), some (.ref l), x, y, z, u, v, w] ∧ GsL K H H4 l names us gs ∧ H4 c1 = some (.lst (cs.map V.int)) ∧ gs.length ≤ most)
      ⟨_, _, _, _, _, _, [], [], rfl, ⟨s1.trans s2, s2 _ _ e1, GsRel.nil, by simp⟩, e2, by simp⟩ (fun i σ H4 _ ⟨_, _, _, _, _, _, us, gs, _, _, q, _⟩ => SqL.of q) ?_ ?_
    · rintro i x σ H4 hx ⟨_, _, _, _, _, _, us, gs, rfl, G, q, hi⟩
      have hi2 : i < (cs.map V.int).length := (List.getElem?_eq_some_iff.mp hx).1
      rw [List.length_map] at hi2
      obtain rfl : x = .int cs[i] := by
        rw [List.getElem?_map, List.getElem?_eq_getElem hi2] at hx
        exact (Option.some.inj hx).symm
      walk_at "st"
      refine x_while (fun m σ H5 => ∃ (n : Int) (y z v w : Option V) (us : List V) (gs : List Game), m = n.natAbs ∧ σ = [some (.ref a), some (.ref b), some (.int (most : Int)), some (.ref l), y, some (.int cs[i]), some (.int n), z, v, w] ∧ GsL K H H5 l names us gs ∧ H5 c1 = some (.lst (cs.map V.int)) ∧ gs.length ≤ most)
        _ ⟨cs[i], _, _, _, _, us, gs, rfl, rfl, G, q, hi⟩ ?_
      rintro m σ H5 ⟨n, y, z, v, w, us, gs, rfl, rfl, G, q, hi⟩
      have out : ∀ y z v w, ∃ (x y_1 z_1 u v_1 w_1 : Option V) (us_1 : List V) (gs_1 : List Game), [some (V.ref a), some (V.ref b), some (V.int (most : Int)), some (V.ref l), y, some (V.int cs[i]), some (V.int n), z, v, w] = [some (V.ref a), some (V.ref b), some (V.int (most : Int)), some (V.ref l), x, y_1, z_1, u, v_1, w_1] ∧ GsL K H H5 l names us_1 gs_1 ∧ H5 c1 = some (.lst (cs.map V.int)) ∧ gs_1.length ≤ most :=
        fun y z v w => ⟨_, _, _, _, _, _, us, gs, rfl, G, q, hi⟩
      walk_at "st"
      refine x_ndec (fun c0 => ?_) (fun c0 => ?_)
      · walk_at "st"
        refine x_ndec (fun c1' => ?_) (fun c1' => ?_)
        · walk_at "st"
          refine x_lenL (SqL.of G.hl) ?_
          walk_at "st"
          refine x_dec (fun c2 => ?_) (fun c2 => ?_)
          · rw [G.rel.1] at c2
            have o0 : 0 ≤ n % (names.length : Int) := Int.emod_nonneg _ (by omega)
            have o1 : n % (names.length : Int) < names.length := Int.emod_lt_of_pos _ (by omega)
            have t0 : 0 ≤ n / 8 % ((names.length : Int) - 1) := Int.emod_nonneg _ (by omega)
            have t1 : n / 8 % ((names.length : Int) - 1) < (names.length : Int) - 1 := Int.emod_lt_of_pos _ (by omega)
            have w0 : 0 ≤ (n % (names.length : Int) + 1 + n / 8 % ((names.length : Int) - 1)) % (names.length : Int) := Int.emod_nonneg _ (by omega)
            have w1 : (n % (names.length : Int) + 1 + n / 8 % ((names.length : Int) - 1)) % (names.length : Int) < names.length := Int.emod_lt_of_pos _ (by omega)
            have gn := getS_ne nd o0 o1 w0 w1 (two_ne o0 o1 t0 t1)
            have ga1 := getS_mem o0 o1
            have gb1 := getS_mem w0 w1
            have aa := at_getS o0 o1
            have ab := at_getS w0 w1
            have hb5 := Same.seq G.same hb
            walk_at "st"
            rw [hlen]
            walk_at "st"
            refine x_kTup (by walk_at "len") fun t1 H6 n6 s6 e6 => ?_
            have G6 := G.step s6
            walk_at "st"
            refine x_tyL (SqL.of G6.hl) ?_
            walk_at "st"
            refine x_kTup (by walk_at "len") fun t2 H7 n7 s7 e7 => ?_
            have G7 := G6.step s7
            refine x_catA (SqT.of (s7 _ _ e6)) (SqT.of e7) (by simp) (by simp) (by walk_at "len") fun t3 H8 n8 s8 e8 => ?_
            have G8 := G7.step s8
            walk_at "st"
            refine x_append G8.hl (by rw [G8.rel.1]; omega) fun H9 b9 e9 => ?_
            walk_at "st"
            refine ⟨_, ?_, _, _, _, _, _, us ++ [.ref t3], gs ++ [⟨getS names (n % (names.length : Int)), n / 64 % 10000, 1 + n / 640000 % 9999, getS names ((n % (names.length : Int) + 1 + n / 8 % ((names.length : Int) - 1)) % (names.length : Int)), n / 6400000000 % 10000, 1 + n / (64 * 10 ^ Int.toNat 12) % 9999⟩], rfl, rfl, ?_, b9 _ _ hne (s8 _ _ (s7 _ _ (s6 _ _ q))), ?_⟩
            · rw [show (64 * 10 ^ Int.toNat 16 : Int) = 640000000000000000 from rfl]
              omega
            · refine G8.snoc n1 (SqT.of e8) ⟨⟨⟨?_, ?_⟩, ⟨?_, ?_⟩, ⟨?_, ?_⟩, ⟨?_, ?_⟩⟩, ga1, gb1, gn⟩ b9 e9
              all_goals (dsimp only; (try rw [show (64 * 10 ^ Int.toNat 12 : Int) = 64000000000000 from rfl]); omega)
            · rw [List.length_append]
              simp
              omega
          · walk_at "st"
            exact out _ _ _ _
        · walk_at "st"
          exact out _ _ _ _
      · walk_at "st"
        exact out _ _ _ _
    · rintro σ H4 ⟨_, _, _, _, _, _, us, gs, rfl, G, q, hi⟩
      walk_at "st"
      exact k l H4 us gs n1 G hi
/-! L10: the league. -/
open PySem PySem.Spec PyProof.Rows L2
open Evl (tCut)
theorem nameC_inj {n i j : Nat} (hi : i < 52) (hj : j < 52) (h : nameC n i = nameC n j) : i = j := by
  unfold nameC at h
  obtain ⟨h1, h2⟩ := List.append_inj' h rfl
  obtain ⟨h3, _⟩ := List.append_inj' h1 rfl
  obtain ⟨_, h5⟩ := List.append_inj' h3 rfl
  have e1 : 97 + (n / 40000 % 26 + i) % 26 = 97 + (n / 40000 % 26 + j) % 26 := by simpa using h5
  have e2 : (if i < 26 then 122 else 113) = (if j < 26 then 122 else 113) := by simpa using h2
  by_cases c1 : i < 26 <;> by_cases c2 : j < 26 <;> simp [c1, c2] at e2 <;> omega
theorem namesOf_nd (n many : Nat) (h : many ≤ 52) : (namesOf n many).Nodup := by
  unfold namesOf
  refine List.pairwise_map.mpr ?_
  refine List.Pairwise.imp_of_mem (R := fun a b => a ≠ b) (fun {a b} ha hb ne e => ne (nameC_inj (by have := List.mem_range.mp ha; omega) (by have := List.mem_range.mp hb; omega) (mk_inj e))) List.nodup_range
theorem namesOf_len (n many : Nat) : (namesOf n many).length = many := by unfold namesOf; rw [List.length_map, List.length_range]
structure PtsOk (x y z : Int) : Prop where
  x : 0 ≤ x ∧ x ≤ 9999
  y : 0 ≤ y ∧ y ≤ 9999
  z : 0 ≤ z ∧ z ≤ 9999
/-- what a league is drawn to -/
structure Lea (K : PySem.W.Frag) (H H' : Hp) (p pt bl gl : Addr) (x y z : Int) (bs : List Str) (us : List V) (gs : List Game) (n many most : Nat) : Prop where
  hp : H' p = some (.tup [.ref pt, .ref bl, .ref gl])
  hpt : H' pt = some (.tup [.int x, .int y, .int z])
  pts : PtsOk x y z
  hb : H' bl = some (.lst (bs.map V.str))
  brk : BrkOk bs
  games : GsL K H H' gl (namesOf n many) us gs
  len : gs.length ≤ most
  many : 2 ≤ many ∧ many ≤ 8
  fb : H bl = none
  fg : H gl = none
def spLeague (K : PySem.W.Frag) : Sp := fun vs H Q _ => ∃ (a : Addr) (ns : List Int) (most : Nat), vs = [.ref a, .int (most : Int)] ∧ SqL K H a (ns.map V.int) ∧ ns.length ≤ 63 ∧ most ≤ 1000 ∧
  ∀ p pt bl gl x y z bs us gs many H', Lea K H H' p pt bl gl x y z bs us gs (mixN (lawAt ns 1) 11) many most → Q (.ref p) H'
def N__law_league : List Str := ["_law_script", "_law_most", "_law_n", "_law_names_here", "_law_points"]
def t__law_league (K : PySem.W.Frag) : TS := (tSeq (tAsg (tOp nDiv (tCall (spAt K) [] E0 (tCons (tVar 0) (tCons (tC (.int 0)) tNil))) (tC (.int 2))) (gName 2))
  (tSeq (tAsg (tCall (spNames K) [] E0 (tCons (tCall (spAt K) [] E0 (tCons (tVar 0) (tCons (tC (.int 1)) tNil))) (tCons (tOp nAdd (tC (.int 2)) (tOp nMod (tVar 2) (tC (.int 7)))) tNil))) (gName 3))
  (tSeq (tAsg (tTup (tCons (tOp (rIxL K) (tLst (tCons (tC (.int 2)) (tCons (tC (.int 3)) (tCons (tC (.int 0)) (tCons (tOp nMod (tOp nDiv (tVar 2) (tC (.int 7))) (tC (.int 10000))) tNil))))) (tOp nMod (tOp nDiv (tVar 2) (tC (.int 70000))) (tC (.int 4)))) (tCons (tOp nMod (tOp nDiv (tVar 2) (tC (.int 700000))) (tC (.int 10000))) (tCons (tOp (rIxL K) (tLst (tCons (tC (.int 0)) (tCons (tOp nMod (tOp nDiv (tVar 2) (tC (.int 7000000))) (tC (.int 10000))) tNil))) (tOp nMod (tOp nDiv (tVar 2) (tC (.int 70))) (tC (.int 2)))) tNil)))) (gName 4))
  (tRet (tTup (tCons (tVar 4) (tCons (tCall (spBreakers K) [] E0 (tCons (tOp nDiv (tVar 2) (tC (.int 280000))) tNil)) (tCons (tCall (spGames K) [] E0 (tCons (tVar 0) (tCons (tVar 3) (tCons (tVar 1) tNil)))) tNil))))))))
theorem rd_league (K : PySem.W.Frag) : Reads N__law_league (spLeague K) (t__law_league K) := by
  rintro vs H Q E ⟨a, ns, most, rfl, ha, h63, hm, k⟩
  show t__law_league K _ [some (.ref a), some (.int (most : Int)), none, none, none] H
  unfold t__law_league
  walk_at "st"
  refine ⟨a, ns, 0, rfl, ha, ?_⟩
  walk_at "st"
  generalize lawAt ns 0 / 2 = n
  refine ⟨a, ns, 1, rfl, ha, ?_⟩
  walk_at "st"
  refine ⟨lawAt ns 1, (2 + n % 7).toNat, by rw [Int.toNat_of_nonneg (by omega)]; rfl, by omega, fun l1 H1 n1 s1 e1 => ?_⟩
  have hmany : 2 ≤ (2 + n % 7).toNat ∧ (2 + n % 7).toNat ≤ 8 := by omega
  generalize (2 + n % 7).toNat = many at e1 hmany
  walk_at "st"
  refine x_kLst (by walk_at "len") fun q1 H2 n2 s2 e2 => ?_
  walk_at "st"
  refine x_ixL (SqL.of e2) (at_getI (l := [2, 3, 0, n / 7 % 10000]) (i := n / 70000 % 4) (by omega) (by simp; omega)) ?_
  have g1 : 0 ≤ getI [2, 3, 0, n / 7 % 10000] (n / 70000 % 4) ∧ getI [2, 3, 0, n / 7 % 10000] (n / 70000 % 4) ≤ 9999 := getI_all (P := fun x => 0 ≤ x ∧ x ≤ 9999) (by simp; omega) (by omega) (by simp; omega)
  generalize getI [2, 3, 0, n / 7 % 10000] (n / 70000 % 4) = x at g1 ⊢
  walk_at "st"
  refine x_kLst (by walk_at "len") fun q2 H3 n3 s3 e3 => ?_
  walk_at "st"
  refine x_ixL (SqL.of e3) (at_getI (l := [0, n / 7000000 % 10000]) (i := n / 70 % 2) (by omega) (by simp; omega)) ?_
  have g2 : 0 ≤ getI [0, n / 7000000 % 10000] (n / 70 % 2) ∧ getI [0, n / 7000000 % 10000] (n / 70 % 2) ≤ 9999 := getI_all (P := fun x => 0 ≤ x ∧ x ≤ 9999) (by simp; omega) (by omega) (by simp; omega)
  generalize getI [0, n / 7000000 % 10000] (n / 70 % 2) = z at g2 ⊢
  walk_at "st"
  refine x_kTup (by walk_at "len") fun pt H4 n4 s4 e4 => ?_
  walk_at "st"
  refine ⟨_, rfl, fun bl H5 bs n5 s5 e5 ok => ?_⟩
  walk_at "st"
  refine ⟨a, l1, ns, namesOf (mixN (lawAt ns 1) 11) many, most, rfl, by walk_at "rd", h63, by walk_at "rd", by rw [namesOf_len]; omega, by rw [namesOf_len]; omega, namesOf_nd _ _ (by omega), hm, fun gl H6 us gs n6 G hl => ?_⟩
  walk_at "st"
  have s6 := G.same
  refine x_kTup (by walk_at "len") fun p H7 n7 s7 e7 => ?_
  have s04 : Same H H4 := ((s1.trans s2).trans s3).trans s4
  exact k p pt bl gl x _ z bs us gs many H7 ⟨e7, s7 _ _ (s6 _ _ (s5 _ _ e4)), ⟨g1, ⟨by omega, by omega⟩, g2⟩, s7 _ _ (s6 _ _ e5), ok, ⟨((s04.trans s5).trans G.same).trans s7, s7 _ _ G.hl, G.rel.same s7, G.ok⟩, hl, hmany, Same.none s04 n5, Same.none (s04.trans s5) n6⟩
/-! L11: alike data. -/
open PySem PySem.Spec PyProof.Rows L2
open Evl (tCut)
/-! ### data in the heap -/
mutual
def Dq (H : Hp) : PyData → V → Prop
  | .none, v => v = .non
  | .bool b, v => v = .bl b
  | .int i, v => v = .int i
  | .str s, v => v = .str s
  | .list ds, v => ∃ a xs, v = .ref a ∧ H a = some (.lst xs) ∧ DqAll H ds xs
  | .tuple ds, v => ∃ a xs, v = .ref a ∧ H a = some (.tup xs) ∧ DqAll H ds xs
  | .dict _, _ => False
def DqAll (H : Hp) : List PyData → List V → Prop
  | [], xs => xs = []
  | d :: ds, xs => ∃ v vs, xs = v :: vs ∧ Dq H d v ∧ DqAll H ds vs
end
mutual
theorem Dq.same {H H' : Hp} (s : Same H H') : ∀ {d : PyData} {v : V}, Dq H d v → Dq H' d v
  | .none, _, h => h
  | .bool _, _, h => h
  | .int _, _, h => h
  | .str _, _, h => h
  | .list ds, v, h => by
    unfold Dq at h ⊢
    obtain ⟨a, xs, e, h1, h2⟩ := h
    exact ⟨a, xs, e, s _ _ h1, DqAll.same s h2⟩
  | .tuple ds, v, h => by
    unfold Dq at h ⊢
    obtain ⟨a, xs, e, h1, h2⟩ := h
    exact ⟨a, xs, e, s _ _ h1, DqAll.same s h2⟩
  | .dict _, _, h => h
theorem DqAll.same {H H' : Hp} (s : Same H H') : ∀ {ds : List PyData} {vs : List V}, DqAll H ds vs → DqAll H' ds vs
  | [], _, h => h
  | d :: ds, xs, h => by
    unfold DqAll at h ⊢
    obtain ⟨v, vs, e, h1, h2⟩ := h
    exact ⟨v, vs, e, Dq.same s h1, DqAll.same s h2⟩
end
mutual
theorem Dq.dp {K : PySem.W.Frag} {H : Hp} : ∀ {d : PyData} {v : V}, Dq H d v → Dp K H v d
  | .none, v, h => by cases (show v = .non from h); exact .non
  | .bool b, v, h => by cases (show v = .bl b from h); exact .bl b
  | .int i, v, h => by cases (show v = .int i from h); exact .int i
  | .str x, v, h => by cases (show v = .str x from h); exact .str x
  | .list ds, v, h => by
    unfold Dq at h
    obtain ⟨a, xs, rfl, h1, h2⟩ := h
    exact .lst (SqL.of h1) (DqAll.dp h2)
  | .tuple ds, v, h => by
    unfold Dq at h
    obtain ⟨a, xs, rfl, h1, h2⟩ := h
    exact .tup (SqT.of h1) (DqAll.dp h2)
  | .dict _, _, h => h.elim
theorem DqAll.dp {K : PySem.W.Frag} {H : Hp} : ∀ {ds : List PyData} {vs : List V}, DqAll H ds vs → DpAll K H vs ds
  | [], vs, h => by cases (show vs = [] from h); exact .nil
  | d :: ds, xs, h => by
    unfold DqAll at h
    obtain ⟨v, vs, rfl, h1, h2⟩ := h
    exact .cons (Dq.dp h1) (DqAll.dp h2)
end
theorem DqAll.len {H : Hp} : ∀ {ds : List PyData} {vs : List V}, DqAll H ds vs → vs.length = ds.length
  | [], vs, h => by cases (show vs = [] from h); rfl
  | d :: ds, xs, h => by
    unfold DqAll at h
    obtain ⟨v, vs, rfl, h1, h2⟩ := h
    show vs.length + 1 = ds.length + 1
    rw [DqAll.len h2]
theorem DqAll.at {H : Hp} : ∀ {ds : List PyData} {vs : List V} {i : Nat} {d : PyData}, DqAll H ds vs → ds[i]? = some d → ∃ v, vs[i]? = some v ∧ Dq H d v
  | [], vs, i, d, h, e => by simp at e
  | d :: ds, xs, 0, d', h, e => by
    unfold DqAll at h
    obtain ⟨v, vs, rfl, h1, h2⟩ := h
    have e' : d = d' := Option.some.inj e
    subst e'
    exact ⟨v, rfl, h1⟩
  | d :: ds, xs, i + 1, d', h, e => by
    unfold DqAll at h
    obtain ⟨v, vs, rfl, h1, h2⟩ := h
    obtain ⟨w, e1, e2⟩ := DqAll.at h2 (show ds[i]? = some d' from e)
    exact ⟨w, e1, e2⟩
/-- data of lists, tuples, texts, ints and truths, no list longer than a thousand; nested to depth n -/
def Okd : Nat → PyData → Prop
  | _, .bool _ => True
  | _, .int _ => True
  | _, .str x => PyData.strOk x = true
  | n + 1, .list ds => ds.length ≤ 1000 ∧ ∀ d ∈ ds, Okd n d
  | n + 1, .tuple ds => ds.length ≤ 1000 ∧ ∀ d ∈ ds, Okd n d
  | _, _ => False
def spNone : Sp := fun _ _ _ _ => False
theorem fnOk_none {P : Program} {w : World} {K : PySem.W.Frag} {mg : Str → Option Value} {base : Heap} {CX : CXT} {k : Nat} {f : Addr} {fd : FuncData} {ps : List Str} : FnOk P w K mg base CX k f fd ps spNone := ⟨fun _ _ _ _ h => h.elim, fun _ _ _ _ _ _ _ _ _ _ _ _ _ h => h.elim⟩
def spAlike (n : Nat) : Sp := fun vs H Q _ => ∃ (v u : V) (d : PyData), vs = [v, u] ∧ Okd n d ∧ Dq H d v ∧ Dq H d u ∧ Q (.bl true) H
theorem x_isi {K : PySem.W.Frag} {H : Hp} {Q : VK} {x : V} {a c : String} {b : Bool} (t : TyOf K H x (.type a)) (e : kitB a c = some b) (h : Q (.bl b) H) : rIsi K [x, .ty c] H Q := ⟨x, .ty c, _, _, b, rfl, .ty c, .base t, kit_ty e, h⟩
theorem x_eqD {K : PySem.W.Frag} {H : Hp} {Q : VK} {x y : V} {d : PyData} (h1 : Dp K H x d) (h2 : Dp K H y d) (s : SeqAt.shaped d = true) (h : Q (.bl true) H) : rEqD K x y H Q := ⟨d, d, h1, h2, s, s, by rw [SeqAt.eqv_refl _ (SeqAt.canLay_of_shaped s)]; exact h⟩
theorem x_neD {K : PySem.W.Frag} {H : Hp} {Q : VK} {x y : V} {d : PyData} (h1 : Dp K H x d) (h2 : Dp K H y d) (s : SeqAt.shaped d = true) (h : Q (.bl false) H) : rNeD K x y H Q := ⟨d, d, h1, h2, s, s, by rw [SeqAt.eqv_refl _ (SeqAt.canLay_of_shaped s)]; exact h⟩
def rLen (K : PySem.W.Frag) : VR := fun xs H Q => ∃ x n, xs = [x] ∧ LenV K x H n ∧ Q (.int n) H
def N__law_alike : List Str := ["_law_found", "_law_due", "_law_k"]
def t__law_alike (K : PySem.W.Frag) (A_ : Sp) : TS := (tSeq (tIfS (tB (tCB (rIsi K) (tCons (tVar 1) (tCons (tC (.ty "bool")) tNil))))
  (tRet (tAndV (tCB (rIsi K) (tCons (tVar 0) (tCons (tC (.ty "bool")) tNil))) (tOp (rEqD K) (tVar 0) (tVar 1))))
  tNext)
  (tSeq (tIfS (tB (tCB (rIsi K) (tCons (tVar 1) (tCons (tC (.ty "str")) tNil))))
  (tRet (tAndV (tCB (rIsi K) (tCons (tVar 0) (tCons (tC (.ty "str")) tNil))) (tOp (rEqD K) (tVar 0) (tVar 1))))
  tNext)
  (tSeq (tIfS (tB (tCB (rIsi K) (tCons (tVar 1) (tCons (tC (.ty "int")) tNil))))
  (tRet (tAndV (tCB (rIsi K) (tCons (tVar 0) (tCons (tC (.ty "int")) tNil))) (tAndV (tNotV (tCB (rIsi K) (tCons (tVar 0) (tCons (tC (.ty "bool")) tNil)))) (tOp (rEqD K) (tVar 0) (tVar 1)))))
  tNext)
  (tSeq (tIfS (tAnd (tB (tCB (rIsi K) (tCons (tVar 1) (tCons (tC (.ty "tuple")) tNil)))) (tNot (tB (tCB (rIsi K) (tCons (tVar 0) (tCons (tC (.ty "tuple")) tNil))))))
  (tRet (tC (.bl false)))
  tNext)
  (tSeq (tIfS (tAnd (tB (tCB (rIsi K) (tCons (tVar 1) (tCons (tC (.ty "list")) tNil)))) (tNot (tB (tCB (rIsi K) (tCons (tVar 0) (tCons (tC (.ty "list")) tNil))))))
  (tRet (tC (.bl false)))
  tNext)
  (tSeq (tIfS (tTest (tOp rNe (tCB (rLen K) (tCons (tVar 0) tNil)) (tCB (rLen K) (tCons (tVar 1) tNil))))
  (tRet (tC (.bl false)))
  tNext)
  (tSeq (tFor (iRng1 (tCons (tCB (rLen K) (tCons (tVar 1) tNil)) tNil)) (gName 2)
  (tIfS (tNot (tB (tCall A_ [] E0 (tCons (tOp (rIx K) (tVar 0) (tVar 2)) (tCons (tOp (rIx K) (tVar 1) (tVar 2)) tNil)))))
  (tRet (tC (.bl false)))
  tNext))
  (tRet (tC (.bl true))))))))))
theorem x_isiY {K : PySem.W.Frag} {H : Hp} {Q : VK} {x : V} {a c : String} (t : TyOf K H x (.type a)) (e : kitB a c = some true) (h : Q (.bl true) H) : rIsi K [x, .ty c] H Q := x_isi t e h
theorem x_isiN {K : PySem.W.Frag} {H : Hp} {Q : VK} {x : V} {a c : String} (t : TyOf K H x (.type a)) (e : kitB a c = some false) (h : Q (.bl false) H) : rIsi K [x, .ty c] H Q := x_isi t e h
local macro_rules | `(tactic| walk_at "ity") => `(tactic| first | exact TyOf.bl _ | exact TyOf.int _ | exact TyOf.str _ | exact TyOf.lst (by assumption) | exact TyOf.tup (by assumption))
local macro_rules | `(tactic| walk_at "isi") => `(tactic| first
  | ((with_reducible apply x_isiY); (· walk_at "ity"); (· decide +kernel); (walk_at "st"))
  | ((with_reducible apply x_isiN); (· walk_at "ity"); (· decide +kernel); (walk_at "st")))
theorem x_rLenL {K : PySem.W.Frag} {H : Hp} {Q : VK} {p : Addr} {xs : List V} (a : SqL K H p xs) (h : Q (.int (xs.length : Nat)) H) : rLen K [.ref p] H Q := ⟨_, _, rfl, .inl ⟨_, a, rfl⟩, h⟩
theorem x_rLenT {K : PySem.W.Frag} {H : Hp} {Q : VK} {p : Addr} {xs : List V} (a : SqT K H p xs) (h : Q (.int (xs.length : Nat)) H) : rLen K [.ref p] H Q := ⟨_, _, rfl, .inr ⟨_, a, rfl⟩, h⟩
theorem sh_bool (b : Bool) : SeqAt.shaped (.bool b) = true := by cases b <;> decide
theorem sh_int (b : Int) : SeqAt.shaped (.int b) = true := rfl
theorem sh_str {b : Str} (h : PyData.strOk b = true) : SeqAt.shaped (.str b) = true := by
  show (PyData.canLay0 (.str b) && decide (PyData.depth (.str b) ≤ 64)) = true
  unfold PyData.canLay0 PyData.depth
  rw [h]
  rfl
theorem iteT2 {a b : Prop} (h : a) : if (!false) = true then a else b := h
theorem iteF2 {a b : Prop} (h : b) : if (!true) = true then a else b := h
local macro_rules | `(tactic| walk_at "alk") => `(tactic| repeat (first | walk_at "one" | walk_at "isi" | refine iteT2 ?_ | refine iteF2 ?_ | refine x_rLenL (by with_reducible assumption) ?_ | refine x_rLenT (by with_reducible assumption) ?_))
theorem rd_alike (K : PySem.W.Frag) (n : Nat) (A_ : Sp) (hA : ∀ m, n = m + 1 → A_ = spAlike m) : Reads N__law_alike (spAlike n) (t__law_alike K A_) := by
  rintro vs H Q E ⟨v, u, d, rfl, ok, hv, hu, k⟩
  show t__law_alike K A_ _ [some v, some u, none] H
  unfold t__law_alike
  walk_at "st"
  cases d with
  | none => cases n <;> exact ok.elim
  | dict _ => cases n <;> exact ok.elim
  | bool b => 
    cases (show v = .bl b from hv)
    cases (show u = .bl b from hu)
    walk_at "alk"
    exact x_eqD (.bl b) (.bl b) (sh_bool b) k
  | int i =>
    cases (show v = .int i from hv)
    cases (show u = .int i from hu)
    walk_at "alk"
    exact x_eqD (.int i) (.int i) (sh_int i) k
  | str x => 
    cases (show v = .str x from hv)
    cases (show u = .str x from hu)
    walk_at "alk"
    exact x_eqD (.str x) (.str x) (sh_str (by cases n <;> exact ok)) k
  | list ds => 
    unfold Dq at hv hu
    obtain ⟨a, xs, rfl, ha, hxs⟩ := hv
    obtain ⟨c, ys, rfl, hc, hys⟩ := hu
    rcases n with _ | n
    · exact ok.elim
    obtain rfl := hA n rfl
    obtain ⟨hl, ok⟩ := ok
    have l1 := hxs.len
    have l2 := hys.len
    have sa : SqL K H a xs := SqL.of ha
    have sc : SqL K H c ys := SqL.of hc
    walk_at "alk"
    rw [show decide (((xs.length : Nat) : Int) = ((ys.length : Nat) : Int)) = true by rw [l1, l2]; simp]
    walk_at "alk"
    refine x_kForR (n := ds.length) (by omega) (by omega) (fun i σ H1 => H1 = H ∧ ∃ y, σ = [some (V.ref a), some (V.ref c), y]) ⟨rfl, _, rfl⟩ ?_ ?_
    · rintro i σ H1 hi ⟨rfl, y, rfl⟩
      walk_at "alk"
      obtain ⟨v, e1, d1⟩ := hxs.at (List.getElem?_eq_getElem hi)
      obtain ⟨u, e2, d2⟩ := hys.at (List.getElem?_eq_getElem hi)
      refine Or.inl (x_ixL sa (atI_nat e1) ?_)
      walk_at "alk"
      refine Or.inl (x_ixL sc (atI_nat e2) ?_)
      walk_at "alk"
      refine ⟨v, u, ds[i], rfl, ok _ (List.getElem_mem hi), d1, d2, ?_⟩
      walk_at "alk"
      exact ⟨rfl, _, rfl⟩
    · rintro σ H1 ⟨rfl, y, rfl⟩
      walk_at "alk"
      exact k
  | tuple ds => 
    unfold Dq at hv hu
    obtain ⟨a, xs, rfl, ha, hxs⟩ := hv
    obtain ⟨c, ys, rfl, hc, hys⟩ := hu
    rcases n with _ | n
    · exact ok.elim
    obtain rfl := hA n rfl
    obtain ⟨hl, ok⟩ := ok
    have l1 := hxs.len
    have l2 := hys.len
    have sa : SqT K H a xs := SqT.of ha
    have sc : SqT K H c ys := SqT.of hc
    walk_at "alk"
    rw [show decide (((xs.length : Nat) : Int) = ((ys.length : Nat) : Int)) = true by rw [l1, l2]; simp]
    walk_at "alk"
    refine x_kForR (n := ds.length) (by omega) (by omega) (fun i σ H1 => H1 = H ∧ ∃ y, σ = [some (V.ref a), some (V.ref c), y]) ⟨rfl, _, rfl⟩ ?_ ?_
    · rintro i σ H1 hi ⟨rfl, y, rfl⟩
      walk_at "alk"
      obtain ⟨v, e1, d1⟩ := hxs.at (List.getElem?_eq_getElem hi)
      obtain ⟨u, e2, d2⟩ := hys.at (List.getElem?_eq_getElem hi)
      refine Or.inr (Or.inl (x_ixT sa (atI_nat e1) ?_))
      walk_at "alk"
      refine Or.inr (Or.inl (x_ixT sc (atI_nat e2) ?_))
      walk_at "alk"
      refine ⟨v, u, ds[i], rfl, ok _ (List.getElem_mem hi), d1, d2, ?_⟩
      walk_at "alk"
      exact ⟨rfl, _, rfl⟩
    · rintro σ H1 ⟨rfl, y, rfl⟩
      walk_at "alk"
      exact k
/-! L12: the law's own sums. -/
open PySem PySem.Spec PyProof.Rows L2
open Evl (tCut)
structure En where
  k : Str
  a : Addr
  s : StD
def En.ks (e : En) : Str × StD := (e.k, e.s)
def En.kv (e : En) : Key × V := (.inr e.k, .ref e.a)
def rowV (s : StD) : List V := [.int s.won, .int s.tied, .int s.lost, .int s.pts, .int s.rm, .int s.bm, .int s.ro, .int s.bo]
structure Tb2 (H0 H : Hp) (d : Addr) (L : List En) : Prop where
  same : Same H0 H
  d0 : H0 d = none
  hd : H d = some (.dK (L.map En.kv))
  hs : ∀ e ∈ L, H e.a = some (.lst (rowV e.s))
  nd : (L.map En.a).Nodup
  new : ∀ e ∈ L, H0 e.a = none
theorem find_en {L : List En} {k : Str} {v : V} (h : valV (L.map En.kv) (Sum.inr k) = some v) : ∃ La e Lb, L = La ++ e :: Lb ∧ e.k = k ∧ v = .ref e.a ∧ ∀ f, upS f k (L.map En.ks) = La.map En.ks ++ (k, f e.s) :: Lb.map En.ks := by
  induction L with
  | nil => cases h
  | cons e r ih =>
    by_cases c : e.k = k
    · have e1 : v = .ref e.a := by
        have z : valV (En.kv e :: r.map En.kv) (Sum.inr k) = some (En.kv e).2 := valV_pos (congrArg Sum.inr c)
        exact (Option.some.inj (z.symm.trans h)).symm
      refine ⟨[], e, r, rfl, c, e1, fun f => ?_⟩
      show (if e.k = k then (e.k, f e.s) :: r.map En.ks else _) = _
      rw [if_pos c, c]
      rfl
    · have z : valV (En.kv e :: r.map En.kv) (Sum.inr k) = valV (r.map En.kv) (Sum.inr k) := valV_neg fun q => c (Sum.inr.inj q)
      obtain ⟨La, e', Lb, h1, h2, h3, h4⟩ := ih (z.symm.trans h)
      refine ⟨e :: La, e', Lb, by rw [h1]; rfl, h2, h3, fun f => ?_⟩
      show (if e.k = k then _ else (e.k, e.s) :: upS f k (r.map En.ks)) = _
      rw [if_neg c, h4 f]
      rfl
theorem miss_en {L : List En} {k : Str} (h : valV (L.map En.kv) (Sum.inr k) = none) (f : StD → StD) : upS f k (L.map En.ks) = L.map En.ks ++ [(k, f st0)] := by
  induction L with
  | nil => rfl
  | cons e r ih =>
    by_cases c : e.k = k
    · have z : valV (En.kv e :: r.map En.kv) (Sum.inr k) = some (En.kv e).2 := valV_pos (congrArg Sum.inr c)
      have z2 : valV (En.kv e :: r.map En.kv) (Sum.inr k) = none := h
      rw [z] at z2
      cases z2
    · have z : valV (En.kv e :: r.map En.kv) (Sum.inr k) = valV (r.map En.kv) (Sum.inr k) := valV_neg fun q => c (Sum.inr.inj q)
      show (if e.k = k then _ else (e.k, e.s) :: upS f k (r.map En.ks)) = _
      rw [if_neg c, ih (z.symm.trans h)]
      rfl
section
variable {K : PySem.W.Frag} {H0 H H' : Hp} {d : Addr} {L La Lb : List En} {e : En}
theorem Tb2.step (T : Tb2 H0 H d L) (s : Same H H') : Tb2 H0 H' d L := ⟨T.same.trans s, T.d0, s _ _ T.hd, fun e m => s _ _ (T.hs e m), T.nd, T.new⟩
theorem Tb2.dne (T : Tb2 H0 H d L) {e : En} (m : e ∈ L) : d ≠ e.a := ne_of T.hd (T.hs e m) (by intro z; cases z)
theorem Tb2.upd (T : Tb2 H0 H d (La ++ e :: Lb)) {s' : StD} (hs : H' e.a = some (.lst (rowV s'))) (b : But e.a H H') : Tb2 H0 H' d (La ++ { e with s := s' } :: Lb) := by
  have me : e ∈ La ++ e :: Lb := List.mem_append.mpr (.inr List.mem_cons_self)
  have nd := T.nd
  rw [List.map_append] at nd
  obtain ⟨n1, n2, n3⟩ := List.nodup_append.mp nd
  have n2' : (e.a :: Lb.map En.a).Nodup := n2
  obtain ⟨m1, m2⟩ := List.nodup_cons.mp n2'
  have hf : (La ++ { e with s := s' } :: Lb).map En.a = (La ++ e :: Lb).map En.a := by rw [List.map_append, List.map_append]; rfl
  have kp : Kept [e.a] H H' := fun x o hx q => b x o (by simpa using hx) q
  refine ⟨kp.fresh T.same (by simpa using T.new e me), T.d0, ?_, fun x hx => ?_, by rw [hf]; exact T.nd, fun x hx => ?_⟩
  · rw [b d _ (T.dne me) T.hd, List.map_append, List.map_append]
    rfl
  · rcases List.mem_append.mp hx with m | m
    · exact b _ _ (fun z => n3 x.a (List.mem_map.mpr ⟨x, m, rfl⟩) e.a List.mem_cons_self z) (T.hs x (List.mem_append.mpr (.inl m)))
    · rcases List.mem_cons.mp m with rfl | m
      · exact hs
      · exact b _ _ (fun z => m1 (List.mem_map.mpr ⟨x, m, z⟩)) (T.hs x (List.mem_append.mpr (.inr (List.mem_cons_of_mem _ m))))
  · rcases List.mem_append.mp hx with m | m
    · exact T.new x (List.mem_append.mpr (.inl m))
    · rcases List.mem_cons.mp m with rfl | m
      · exact T.new e me
      · exact T.new x (List.mem_append.mpr (.inr (List.mem_cons_of_mem _ m)))
theorem Tb2.more (T : Tb2 H0 H d L) (hs : H e.a = some (.lst (rowV e.s))) (n : ∀ x ∈ L, x.a ≠ e.a) (f0 : H0 e.a = none) (b : But d H H') (hd : H' d = some (.dK (L.map En.kv ++ [e.kv]))) : Tb2 H0 H' d (L ++ [e]) := by
  have kp : Kept [d] H H' := fun x o hx q => b x o (by simpa using hx) q
  refine ⟨kp.fresh T.same (by simpa using T.d0), T.d0, by rw [hd, List.map_append]; rfl, fun x hx => ?_, ?_, fun x hx => ?_⟩
  · rcases List.mem_append.mp hx with m | m
    · exact b _ _ (T.dne m).symm (T.hs x m)
    · obtain rfl := List.mem_singleton.mp m
      exact b _ _ (ne_of T.hd hs (by intro z; cases z)).symm hs
  · rw [List.map_append]
    refine List.nodup_append.mpr ⟨T.nd, by simp, fun a ha c hc z => ?_⟩
    obtain ⟨x, hx, rfl⟩ := List.mem_map.mp ha
    have hc' : c = e.a := by simpa using hc
    exact n x hx (z.trans hc')
  · rcases List.mem_append.mp hx with m | m
    · exact T.new x m
    · obtain rfl := List.mem_singleton.mp m
      exact f0
end
/-- tuples stay -/
def KeepT (H H' : Hp) : Prop := ∀ q xs, H q = some (.tup xs) → H' q = some (.tup xs)
theorem KeepT.same {H H' : Hp} (s : Same H H') : KeepT H H' := fun _ _ e => s _ _ e
theorem KeepT.trans {H H1 H2 : Hp} (a : KeepT H H1) (b : KeepT H1 H2) : KeepT H H2 := fun _ _ e => b _ _ (a _ _ e)
theorem KeepT.lst {H H' : Hp} {p : Addr} {ys : List V} (b : But p H H') (e : H p = some (.lst ys)) : KeepT H H' := fun q xs h => b _ _ (ne_of h e (by intro z; cases z)) h
theorem KeepT.dK {H H' : Hp} {p : Addr} {ys : List (Key × V)} (b : But p H H') (e : H p = some (.dK ys)) : KeepT H H' := fun q xs h => b _ _ (ne_of h e (by intro z; cases z)) h
/-- the body behind the place -/
def sumsRest (K : PySem.W.Frag) : TS := (tSeq (tAsg (tOp nAdd (tOp (rIxL K) (tVar 14) (tVar 15)) (tC (.int 1))) (gSub (tVar 14) (tVar 15) rSetL))
  (tSeq (tAsg (tOp nAdd (tOp (rIxL K) (tVar 14) (tC (.int 3))) (tOp (rIxT K) (tVar 0) (tVar 15))) (gSub (tVar 14) (tC (.int 3)) rSetL))
  (tAsg (tLst (tCons (tOp nAdd (tOp (rIxL K) (tVar 14) (tC (.int 4))) (tVar 10)) (tCons (tOp nAdd (tOp (rIxL K) (tVar 14) (tC (.int 5))) (tVar 11)) (tCons (tOp nAdd (tOp (rIxL K) (tVar 14) (tC (.int 6))) (tVar 12)) (tCons (tOp nAdd (tOp (rIxL K) (tVar 14) (tC (.int 7))) (tVar 13)) tNil))))) (gTail (tVar 14) (tPart (tC (.int 4)))))))
section
variable {K : PySem.W.Frag} {H0 H : Hp} {d p : Addr} {L La Lb : List En} {e : En} {rt : VK} {nx bk ct : L2.St → Hp → Prop} {k : Str} {x y z r0 r1 b0 b1 : Int} {s1 s2 s3 s4 s5 s6 s7 s8 s9 s14 s15 : Option V}
theorem sums_rest (Tb : Tb2 H0 H d (La ++ e :: Lb)) (hp : SqT K H p [.int x, .int y, .int z]) {j : Nat} (hj : r0 = r1 ∧ j = 1 ∨ r0 < r1 ∧ j = 2 ∨ r1 < r0 ∧ j = 0)
    (hk : ∀ H', KeepT H H' → Tb2 H0 H' d (La ++ { e with s := took e.s x y z r0 r1 b0 b1 } :: Lb) → nx [some (.ref p), s1, s2, s3, s4, s5, s6, s7, s8, s9, some (.int r0), some (.int b0), some (.int r1), some (.int b1), some (.ref e.a), some (.int (j : Int))] H') :
    sumsRest K ⟨nx, rt, bk, ct⟩ [some (.ref p), s1, s2, s3, s4, s5, s6, s7, s8, s9, some (.int r0), some (.int b0), some (.int r1), some (.int b1), some (.ref e.a), some (.int (j : Int))] H := by
  have me : e ∈ La ++ e :: Lb := List.mem_append.mpr (.inr List.mem_cons_self)
  have hr := Tb.hs e me
  unfold rowV at hr
  unfold sumsRest
  rcases hj with ⟨c, rfl⟩ | ⟨c, rfl⟩ | ⟨c, rfl⟩
  all_goals
    walk_at "st"
    refine x_setL hr (by rfl) fun H1 b1 e1 => ?_
    have hp1 := But.sqT b1 hp hr
    walk_at "st"
    refine x_setL e1 (by rfl) fun H2 b2 e2 => ?_
    walk_at "st"
    refine x_kLst (by walk_at "len") fun q H3 n3 s3 e3 => ?_
    walk_at "st"
    refine x_kTail (a := 4) rfl (s3 _ _ e2) e3 (ne_of_none e2 n3) (by walk_at "len") (by walk_at "len") fun H4 b4 e4 => ?_
    refine hk H4 (((KeepT.lst b1 hr).trans (KeepT.lst b2 e1)).trans ((KeepT.same s3).trans (KeepT.lst b4 (s3 _ _ e2)))) (Tb.upd ?_ (Kept.toBut (Kept.but b1 (by simp) (Kept.but b2 (by simp) (Kept.same s3 (Kept.but b4 (by simp) (Kept.refl _ _)))))))
    rw [e4]
  · subst c; unfold took; rw [if_pos rfl]; rfl
  · unfold took; rw [if_neg (by omega), if_pos c]; rfl
  · unfold took; rw [if_neg (by omega), if_neg (by omega)]; rfl
def sumsBody (K : PySem.W.Frag) : TS := (tSeq (tAsg (tDSetd (tVar 2) (tVar 9) (tLst (tCons (tC (.int 0)) (tCons (tC (.int 0)) (tCons (tC (.int 0)) (tCons (tC (.int 0)) (tCons (tC (.int 0)) (tCons (tC (.int 0)) (tCons (tC (.int 0)) (tCons (tC (.int 0)) tNil)))))))))) (gName 14))
  (tSeq (tAsg (tIf (tTest (tOp rEq (tVar 10) (tVar 12))) (tC (.int 1)) (tOp (rIxL K) (tLst (tCons (tC (.int 2)) (tCons (tC (.int 0)) tNil))) (tCB cInt (tCons (tOp nGt (tVar 10) (tVar 12)) tNil)))) (gName 15)) (sumsRest K)))
theorem sums_place (Tb : Tb2 H0 H d (La ++ e :: Lb)) (hp : SqT K H p [.int x, .int y, .int z])
    (hk : ∀ H' s15', KeepT H H' → Tb2 H0 H' d (La ++ { e with s := took e.s x y z r0 r1 b0 b1 } :: Lb) → nx [some (.ref p), s1, s2, s3, s4, s5, s6, s7, s8, s9, some (.int r0), some (.int b0), some (.int r1), some (.int b1), some (.ref e.a), s15'] H') :
    (tSeq (tAsg (tIf (tTest (tOp rEq (tVar 10) (tVar 12))) (tC (.int 1)) (tOp (rIxL K) (tLst (tCons (tC (.int 2)) (tCons (tC (.int 0)) tNil))) (tCB cInt (tCons (tOp nGt (tVar 10) (tVar 12)) tNil)))) (gName 15)) (sumsRest K))
     ⟨nx, rt, bk, ct⟩ [some (.ref p), s1, s2, s3, s4, s5, s6, s7, s8, s9, some (.int r0), some (.int b0), some (.int r1), some (.int b1), some (.ref e.a), s15] H := by
  walk_at "st"
  refine x_dec (fun c => ?_) (fun c => ?_)
  · walk_at "st"
    exact sums_rest (j := 1) Tb hp (.inl ⟨c, rfl⟩) fun H' kt T' => hk H' _ kt T'
  · walk_at "st"
    refine x_kLst (by walk_at "len") fun q H1 n1 s1 e1 => ?_
    walk_at "st"
    by_cases c2 : r1 < r0
    · rw [decide_eq_true c2]
      refine x_ixL (SqL.of e1) (v := .int 0) rfl ?_
      walk_at "st"
      exact sums_rest (j := 0) (Tb.step s1) (Same.sqT s1 hp) (.inr (.inr ⟨c2, rfl⟩)) fun H' kt T' => hk H' _ ((KeepT.same s1).trans kt) T'
    · rw [decide_eq_false c2]
      refine x_ixL (SqL.of e1) (v := .int 2) rfl ?_
      walk_at "st"
      exact sums_rest (j := 2) (Tb.step s1) (Same.sqT s1 hp) (.inr (.inl ⟨by omega, rfl⟩)) fun H' kt T' => hk H' _ ((KeepT.same s1).trans kt) T'
theorem sums_body (Tb : Tb2 H0 H d L) (hl : L.length < 50000) (hp : SqT K H0 p [.int x, .int y, .int z])
    (hk : ∀ H' L' s14' s15', KeepT H H' → Tb2 H0 H' d L' → L'.map En.ks = upS (fun s => took s x y z r0 r1 b0 b1) k (L.map En.ks) →
      nx [some (.ref p), s1, some (.ref d), s3, s4, s5, s6, s7, s8, some (.str k), some (.int r0), some (.int b0), some (.int r1), some (.int b1), s14', s15'] H') :
    sumsBody K ⟨nx, rt, bk, ct⟩ [some (.ref p), s1, some (.ref d), s3, s4, s5, s6, s7, s8, some (.str k), some (.int r0), some (.int b0), some (.int r1), some (.int b1), s14, s15] H := by
  unfold sumsBody
  walk_at "st"
  refine x_setd rfl Tb.hd ?_
  walk_at "st"
  refine x_kLst (by walk_at "len") fun q H1 n1 s1 e1 => ?_
  have T1 := Tb.step s1
  refine x_kSetd T1.hd (by rw [List.length_map]; omega) (fun v hv' => ?_) (fun hn H3 b3 e3 => ?_)
  · obtain ⟨La, e, Lb, rfl, rfl, rfl, hup⟩ := find_en hv'
    walk_at "st"
    refine sums_place T1 (Same.sqT T1.same hp) fun H' s15' kt T' => hk H' _ _ s15' ((KeepT.same s1).trans kt) T' ?_
    rw [hup, List.map_append]
    rfl
  · walk_at "st"
    have T3 : Tb2 H0 H3 d (L ++ [⟨k, q, st0⟩]) := T1.more e1 (fun x hx z => by
      have := Tb.hs x hx
      rw [z] at this
      have n1' : H q = none := n1
      rw [show H q = some (.lst (rowV x.s)) from this] at n1'
      cases n1') (Same.none Tb.same n1) b3 e3
    refine sums_place (e := ⟨k, q, st0⟩) T3 (Same.sqT T3.same hp) fun H' s15' kt T' => hk H' _ _ s15' (((KeepT.same s1).trans (KeepT.dK b3 T1.hd)).trans kt) T' ?_
    rw [miss_en hn, List.map_append]
    rfl
end
def spSums (K : PySem.W.Frag) : Sp := fun vs H Q _ => ∃ (p l : Addr) (x y z : Int) (gs : List Game), vs = [.ref p, .ref l] ∧ SqT K H p [.int x, .int y, .int z] ∧ GsAt K H l gs ∧ gs.length ≤ 1000 ∧
  ∀ d H' L, Tb2 H H' d L → L.map En.ks = stands x y z gs → Q (.ref d) H'
def N__law_sums : List Str := ["_law_points", "_law_games_here", "_law_rows", "_law_one", "_law_r", "_law_n", "_law_other", "_law_s", "_law_m", "_law_name", "_law_mine", "_law_balls", "_law_yours", "_law_others", "_law_row", "_law_place"]
def t__law_sums (K : PySem.W.Frag) : TS := (tSeq (tAsg tDNewK (gName 2))
  (tSeq (tFor (iList K (tVar 1)) (gTup K 6 (gCons (gName 3) (gCons (gName 4) (gCons (gName 5) (gCons (gName 6) (gCons (gName 7) (gCons (gName 8) gNil)))))))
  (tFor (iTup K (tTup (tCons (tTup (tCons (tVar 3) (tCons (tVar 4) (tCons (tVar 5) (tCons (tVar 7) (tCons (tVar 8) tNil)))))) (tCons (tTup (tCons (tVar 6) (tCons (tVar 7) (tCons (tVar 8) (tCons (tVar 4) (tCons (tVar 5) tNil)))))) tNil)))) (gTup K 5 (gCons (gName 9) (gCons (gName 10) (gCons (gName 11) (gCons (gName 12) (gCons (gName 13) gNil))))))
  (tSeq (tAsg (tDSetd (tVar 2) (tVar 9) (tLst (tCons (tC (.int 0)) (tCons (tC (.int 0)) (tCons (tC (.int 0)) (tCons (tC (.int 0)) (tCons (tC (.int 0)) (tCons (tC (.int 0)) (tCons (tC (.int 0)) (tCons (tC (.int 0)) tNil)))))))))) (gName 14))
  (tSeq (tAsg (tIf (tTest (tOp rEq (tVar 10) (tVar 12))) (tC (.int 1)) (tOp (rIxL K) (tLst (tCons (tC (.int 2)) (tCons (tC (.int 0)) tNil))) (tCB cInt (tCons (tOp nGt (tVar 10) (tVar 12)) tNil)))) (gName 15))
  (tSeq (tAsg (tOp nAdd (tOp (rIxL K) (tVar 14) (tVar 15)) (tC (.int 1))) (gSub (tVar 14) (tVar 15) rSetL))
  (tSeq (tAsg (tOp nAdd (tOp (rIxL K) (tVar 14) (tC (.int 3))) (tOp (rIxT K) (tVar 0) (tVar 15))) (gSub (tVar 14) (tC (.int 3)) rSetL))
  (tAsg (tLst (tCons (tOp nAdd (tOp (rIxL K) (tVar 14) (tC (.int 4))) (tVar 10)) (tCons (tOp nAdd (tOp (rIxL K) (tVar 14) (tC (.int 5))) (tVar 11)) (tCons (tOp nAdd (tOp (rIxL K) (tVar 14) (tC (.int 6))) (tVar 12)) (tCons (tOp nAdd (tOp (rIxL K) (tVar 14) (tC (.int 7))) (tVar 13)) tNil))))) (gTail (tVar 14) (tPart (tC (.int 4)))))))))))
  (tRet (tVar 2))))
theorem rd_sums (K : PySem.W.Frag) : Reads N__law_sums (spSums K) (t__law_sums K) := by
  rintro vs H Q E ⟨p, l, x, y, z, gs, rfl, hp, ⟨us, hl, hg⟩, hn, k⟩
  show t__law_sums K _ [some (.ref p), some (.ref l), none, none, none, none, none, none, none, none, none, none, none, none, none, none] H
  unfold t__law_sums
  walk_at "st"
  refine x_dnew fun d H1 n1 s1 e1 => ?_
  walk_at "st"
  refine x_kForL (Same.seq s1 hl) (fun i σ H2 => ∃ (a b c e f g a1 a2 a3 a4 a5 a6 a7 : Option V) (L : List En), σ = [some (.ref p), some (.ref l), some (.ref d), a, b, c, e, f, g, a1, a2, a3, a4, a5, a6, a7] ∧ Tb2 H H2 d L ∧ L.map En.ks = stands x y z (gs.take i) ∧ L.length ≤ 2 * i)
    ⟨none, none, none, none, none, none, none, none, none, none, none, none, none, [], rfl, ⟨s1, n1, e1, by simp, List.nodup_nil, by simp⟩, rfl, by simp⟩ ?_ ?_ ?_
  · rintro i σ H2 _ ⟨a, b, c, e, f, g, a1, a2, a3, a4, a5, a6, a7, L, rfl, Tb, _⟩
    exact Same.seq Tb.same hl
  · rintro i v σ H2 hi ⟨a, b, c, e, f, g', a1, a2, a3, a4, a5, a6, a7, L, rfl, Tb, hL, hlen⟩
    have hlt : i < gs.length := by rw [← hg.1]; exact (List.getElem?_eq_some_iff.mp hi).1
    obtain ⟨q, hq, ht⟩ := hg.2 i gs[i] (List.getElem?_eq_getElem hlt)
    obtain rfl : v = .ref q := Option.some.inj (hi.symm.trans hq)
    refine x_gtup (Same.sqT Tb.same ht) rfl ?_
    unfold gameV
    walk_at "st"
    refine x_kTup (by walk_at "len") fun q1 H3 n3 s3 e3 => ?_
    walk_at "st"
    refine x_kTup (by walk_at "len") fun q2 H4 n4 s4 e4 => ?_
    walk_at "st"
    refine x_kTup (by walk_at "len") fun q3 H5 n5 s5 e5 => ?_
    have T5 := ((Tb.step s3).step s4).step s5
    refine x_kForT (SqT.of e5) (fun j σ' H6 => ∃ (a1 a2 a3 a4 a5 a6 a7 : Option V) (L' : List En), σ' = [some (.ref p), some (.ref l), some (.ref d), some (.str gs[i].a), some (.int gs[i].r), some (.int gs[i].n), some (.str gs[i].b), some (.int gs[i].s), some (.int gs[i].m), a1, a2, a3, a4, a5, a6, a7] ∧
      KeepT H5 H6 ∧ Tb2 H H6 d L' ∧ L'.length ≤ 2 * i + j ∧ (j = 0 → L'.map En.ks = stands x y z (gs.take i)) ∧ (j = 1 → L'.map En.ks = upS (fun s => took s x y z gs[i].r gs[i].s gs[i].n gs[i].m) gs[i].a (stands x y z (gs.take i))) ∧ (j = 2 → L'.map En.ks = stands x y z (gs.take (i + 1))))
      ⟨_, _, _, _, _, _, _, L, rfl, KeepT.same (Same.refl _), T5, by omega, fun _ => hL, (fun z => by cases z), (fun z => by cases z)⟩ ?_ ?_ ?_
    · rintro j σ' H6 _ ⟨_, _, _, _, _, _, _, _, _, kt, _⟩
      exact SqT.of (kt _ _ e5)
    · rintro j v σ' H6 hj ⟨a1, a2, a3, a4, a5, a6, a7, L', rfl, kt, T6, l6, g0, g1, _⟩
      match j, hj, l6, g0, g1 with
      | 0, hj, l6, g0, g1 =>
        obtain rfl : V.ref q1 = v := Option.some.inj hj
        refine x_gtup (SqT.of (kt _ _ (s5 _ _ (s4 _ _ e3)))) rfl ?_
        walk_at "st"
        refine sums_body T6 (by omega) hp fun H7 L7 s14' s15' kt7 T7 e7 => ⟨_, _, _, _, _, _, _, L7, rfl, kt.trans kt7, T7, ?_, fun z => (by cases z), fun _ => by rw [e7, g0 rfl], fun z => (by cases z)⟩
        have z1 := congrArg List.length e7
        have z2 := upS_len (fun s => took s x y z gs[i].r gs[i].s gs[i].n gs[i].m) gs[i].a (L'.map En.ks)
        rw [List.length_map] at z1 z2
        omega
      | 1, hj, l6, g0, g1 =>
        obtain rfl : V.ref q2 = v := Option.some.inj hj
        refine x_gtup (SqT.of (kt _ _ (s5 _ _ e4))) rfl ?_
        walk_at "st"
        refine sums_body T6 (by omega) hp fun H7 L7 s14' s15' kt7 T7 e7 => ⟨_, _, _, _, _, _, _, L7, rfl, kt.trans kt7, T7, ?_, fun z => (by cases z), fun z => (by cases z), fun _ => ?_⟩
        · have z1 := congrArg List.length e7
          have z2 := upS_len (fun s => took s x y z gs[i].s gs[i].r gs[i].m gs[i].n) gs[i].b (L'.map En.ks)
          rw [List.length_map] at z1 z2
          omega
        · rw [e7, g1 rfl, stands_take x y z (List.getElem?_eq_getElem hlt)]
          rfl
      | j + 2, hj, l6, g0, g1 => simp at hj
    · rintro σ' H6 ⟨a1, a2, a3, a4, a5, a6, a7, L', rfl, kt, T6, l6, _, _, g2⟩
      exact ⟨_, _, _, _, _, _, _, _, _, _, _, _, _, L', rfl, T6, g2 rfl, by have h : L'.length ≤ 2 * i + 2 := l6; omega⟩
  · rintro σ H2 ⟨a, b, c, e, f, g, a1, a2, a3, a4, a5, a6, a7, L, rfl, Tb, hL, _⟩
    walk_at "st"
    refine k d H2 L Tb ?_
    rw [hL, List.take_of_length_le (by rw [hg.1]; omega)]
/-! L13: the law of rates. -/
open PySem PySem.Spec PyProof.Rows L2
open Evl (tCut)
/-! ### games as data -/
theorem nameC_ok (n k : Nat) : ∀ c ∈ nameC n k, c < 1114112 := by
  intro c hc
  unfold nameC at hc
  have hs : ∀ c ∈ stemC n, c < 1114112 := by
    intro c hc
    unfold stemC at hc
    simp only [List.mem_cons, List.not_mem_nil, or_false] at hc
    omega
  rcases List.mem_append.mp hc with h | h
  · rcases List.mem_append.mp h with h | h
    · rcases List.mem_append.mp h with h | h
      · exact hs c (List.mem_of_mem_take h)
      · have := List.mem_singleton.mp h
        omega
    · exact hs c (List.mem_of_mem_drop (List.mem_of_mem_take h))
  · have := List.mem_singleton.mp h
    rw [this]
    split <;> omega
theorem strOk_mk {l : List Nat} (h : ∀ c ∈ l, c < 1114112) : PyData.strOk (mk l) = true := by
  show (l.toArray.all fun x => decide (x < 1114112)) = true
  rw [List.all_toArray, List.all_eq_true]
  exact fun c hc => decide_eq_true (h c hc)
theorem namesOf_ok {n many : Nat} : ∀ s ∈ namesOf n many, PyData.strOk s = true := by
  intro s hs
  unfold namesOf at hs
  obtain ⟨k, _, rfl⟩ := List.mem_map.mp hs
  exact strOk_mk (nameC_ok n k)
def gameD (g : Game) : PyData := .tuple [.str g.a, .int g.r, .int g.n, .str g.b, .int g.s, .int g.m]
theorem Dp.game {K : PySem.W.Frag} {H : Hp} {q : Addr} {g : Game} (h : SqT K H q (gameV g)) : Dp K H (.ref q) (gameD g) :=
  .tup h (.cons (.str _) (.cons (.int _) (.cons (.int _) (.cons (.str _) (.cons (.int _) (.cons (.int _) .nil))))))
theorem dpAll_games {K : PySem.W.Frag} {H : Hp} : ∀ {vs : List V} {gs : List Game}, GsRel K H vs gs → DpAll K H vs (gs.map gameD)
  | [], [], _ => .nil
  | [], g :: gs, h => by cases h.1
  | v :: vs, [], h => by cases h.1
  | v :: vs, g :: gs, h => by
    obtain ⟨q, e, t⟩ := h.2 0 g rfl
    obtain rfl : v = .ref q := Option.some.inj e
    exact .cons (Dp.game t) (dpAll_games ⟨Nat.succ.inj h.1, fun i g' e' => h.2 (i + 1) g' e'⟩)
theorem gameD_lay {g : Game} (ha : PyData.strOk g.a = true) (hb : PyData.strOk g.b = true) : (gameD g).canLay0 = true := by
  unfold gameD
  simp [PyData.canLay0, PyData.canLayAll0, ha, hb]
theorem games_shaped : ∀ {gs : List Game}, (∀ g ∈ gs, PyData.strOk g.a = true ∧ PyData.strOk g.b = true) → SeqAt.shaped (.list (gs.map gameD)) = true := by
  intro gs h
  have h1 : PyData.canLayAll0 (gs.map gameD) = true := by
    induction gs with
    | nil => rfl
    | cons g r ih =>
      show PyData.canLayAll0 (gameD g :: r.map gameD) = true
      rw [PyData.canLayAll0, gameD_lay (h g List.mem_cons_self).1 (h g List.mem_cons_self).2, ih fun x m => h x (List.mem_cons_of_mem _ m)]
      rfl
  have h2 : PyData.depthAll (gs.map gameD) ≤ 1 := by
    clear h h1
    induction gs with
    | nil => simp [PyData.depthAll]
    | cons g r ih =>
      show PyData.depthAll (gameD g :: r.map gameD) ≤ 1
      rw [PyData.depthAll]
      have : (gameD g).depth ≤ 1 := by unfold gameD; simp [PyData.depth, PyData.depthAll]
      omega
  show (PyData.canLay0 (.list (gs.map gameD)) && decide (PyData.depth (.list (gs.map gameD)) ≤ 64)) = true
  rw [PyData.canLay0, PyData.depth, h1, decide_eq_true (by omega)]
  rfl
/-! ### the points don't matter -/
def fgS (s : StD) : StD := { s with pts := 0, won := 0, tied := 0, lost := 0 }
def fgP (p : Str × StD) : Str × StD := (p.1, fgS p.2)
theorem fg_took {s s' : StD} (x y z x' y' z' r0 r1 b0 b1 : Int) (h : fgS s = fgS s') : fgS (took s x y z r0 r1 b0 b1) = fgS (took s' x' y' z' r0 r1 b0 b1) := by
  have e : ∀ (s : StD) (x y z : Int), fgS (took s x y z r0 r1 b0 b1) = ⟨0, 0, 0, 0, (fgS s).rm + r0, (fgS s).ro + r1, (fgS s).bm + b0, (fgS s).bo + b1⟩ := by
    intro s x y z
    unfold took fgS
    split <;> (try split) <;> rfl
  rw [e, e, h]
theorem fg_upS {f f' : StD → StD} {k : Str} (h : ∀ s s', fgS s = fgS s' → fgS (f s) = fgS (f' s')) : ∀ {l l' : List (Str × StD)}, l.map fgP = l'.map fgP → (upS f k l).map fgP = (upS f' k l').map fgP
  | [], [], _ => by
    show [fgP (k, f st0)] = [fgP (k, f' st0)]
    unfold fgP
    rw [show fgS (f st0) = fgS (f' st0) from h st0 st0 rfl]
  | [], _ :: _, e => by cases e
  | _ :: _, [], e => by cases e
  | (j, s) :: r, (j', s') :: r', e => by
    have e0 : fgP (j, s) :: r.map fgP = fgP (j', s') :: r'.map fgP := e
    injection e0 with e1 e2
    unfold fgP at e1
    injection e1 with e3 e4
    obtain rfl : j = j' := e3
    have e4' : fgS s = fgS s' := e4
    unfold upS
    split
    · show fgP (j, f s) :: r.map fgP = fgP (j, f' s') :: r'.map fgP
      rw [e2]
      unfold fgP
      rw [show fgS (j, f s).2 = fgS (j, f' s').2 from h s s' e4']
    · show fgP (j, s) :: (upS f k r).map fgP = fgP (j, s') :: (upS f' k r').map fgP
      rw [fg_upS h e2]
      unfold fgP
      rw [show fgS (j, s).2 = fgS (j, s').2 from e4']
theorem fg_fold (x y z x' y' z' : Int) : ∀ {gs : List Game} {l l' : List (Str × StD)}, l.map fgP = l'.map fgP → (gs.foldl (turnS x y z) l).map fgP = (gs.foldl (turnS x' y' z') l').map fgP
  | [], _, _, h => h
  | g :: gs, l, l', h => fg_fold x y z x' y' z' (gs := gs) (fg_upS (fun s s' e => fg_took x y z x' y' z' _ _ _ _ e) (fg_upS (fun s s' e => fg_took x y z x' y' z' _ _ _ _ e) h))
theorem fg_stands (x y z x' y' z' : Int) (gs : List Game) : (stands x y z gs).map fgP = (stands x' y' z' gs).map fgP := fg_fold x y z x' y' z' rfl
theorem fg_rate {s s' : StD} (h : fgS s = fgS s') : rateD s = rateD s' := by
  unfold fgS at h
  injection h with _ _ _ _ h1 h2 h3 h4
  unfold rateD
  rw [h1, h2, h3, h4]
/-! ### each name once -/
theorem upS_fst (f : StD → StD) (k : Str) : ∀ l : List (Str × StD), (upS f k l).map Prod.fst = if k ∈ l.map Prod.fst then l.map Prod.fst else l.map Prod.fst ++ [k]
  | [] => by simp [upS]
  | (j, s) :: r => by
    unfold upS
    by_cases c : j = k
    · rw [if_pos c, if_pos (by rw [← c]; exact List.mem_cons_self)]; rfl
    · rw [if_neg c]
      show j :: (upS f k r).map Prod.fst = if k ∈ j :: r.map Prod.fst then j :: r.map Prod.fst else (j :: r.map Prod.fst) ++ [k]
      rw [upS_fst f k r]
      by_cases m : k ∈ r.map Prod.fst
      · rw [if_pos m, if_pos (List.mem_cons_of_mem _ m)]
      · rw [if_neg m, if_neg (fun h => by
          rcases List.mem_cons.mp h with e | h
          · exact c e.symm
          · exact m h)]
        rfl
theorem upS_nd {f : StD → StD} {k : Str} {l : List (Str × StD)} (h : (l.map Prod.fst).Nodup) : ((upS f k l).map Prod.fst).Nodup := by
  rw [upS_fst]
  split
  · exact h
  · next c => exact List.nodup_append.mpr ⟨h, by simp, fun a ha b hb e => c (by rw [← List.mem_singleton.mp hb, ← e]; exact ha)⟩
theorem fold_nd (x y z : Int) : ∀ {gs : List Game} {l : List (Str × StD)}, (l.map Prod.fst).Nodup → ((gs.foldl (turnS x y z) l).map Prod.fst).Nodup
  | [], _, h => h
  | g :: gs, l, h => fold_nd x y z (gs := gs) (upS_nd (upS_nd h))
theorem stands_nd (x y z : Int) (gs : List Game) : ((stands x y z gs).map Prod.fst).Nodup := fold_nd x y z (by simp)
theorem lookup_nd {k : Str} {s : StD} : ∀ {l : List (Str × StD)}, (l.map Prod.fst).Nodup → (k, s) ∈ l → l.lookup k = some s
  | [], _, h => by cases h
  | (j, t) :: r, nd, h => by
    have nd' : (j :: r.map Prod.fst).Nodup := nd
    obtain ⟨n1, n2⟩ := List.nodup_cons.mp nd'
    show (match k == j with | true => some t | false => r.lookup k) = some s
    rcases List.mem_cons.mp h with e | m
    · injection e with e1 e2
      rw [e1, e2, beq_self_eq_true]
    · have ne : k ≠ j := fun e => n1 (by rw [← e]; exact List.mem_map.mpr ⟨(k, s), m, rfl⟩)
      rw [beq_eq_false_iff_ne.mpr ne]
      exact lookup_nd n2 m
theorem valV_nd {L : List En} {e : En} (nd : ((L.map En.ks).map Prod.fst).Nodup) (h : e ∈ L) : valV (L.map En.kv) (Sum.inr e.k) = some (.ref e.a) := by
  induction L with
  | nil => cases h
  | cons c r ih =>
    have nd' : (c.k :: (r.map En.ks).map Prod.fst).Nodup := nd
    obtain ⟨n1, n2⟩ := List.nodup_cons.mp nd'
    rcases List.mem_cons.mp h with rfl | m
    · exact valV_pos rfl
    · have ne : ¬ c.k = e.k := fun z => n1 (by rw [z]; exact List.mem_map.mpr ⟨e.ks, List.mem_map.mpr ⟨e, m, rfl⟩, rfl⟩)
      have z : valV (En.kv c :: r.map En.kv) (Sum.inr e.k) = valV (r.map En.kv) (Sum.inr e.k) := valV_neg fun q => ne (Sum.inr.inj q)
      exact z.trans (ih n2 m)
/-- a team's rate, by the sums of other points -/
theorem other_points {x y z : Int} {gs : List Game} {k : Str} {s : StD} (h : (k, s) ∈ stands x y z gs) : ∃ s', (stands 0 0 0 gs).lookup k = some s' ∧ rateD s' = rateD s := by
  have h1 : fgP (k, s) ∈ (stands 0 0 0 gs).map fgP := by rw [fg_stands 0 0 0 x y z]; exact List.mem_map.mpr ⟨_, h, rfl⟩
  obtain ⟨⟨k', s'⟩, m, e⟩ := List.mem_map.mp h1
  unfold fgP at e
  injection e with e1 e2
  obtain rfl : k' = k := e1
  exact ⟨s', lookup_nd (stands_nd _ _ _ _) m, fg_rate e2⟩
/-! ### a dict's keys, walked -/
section
variable {σ : L2.St} {H : Hp} {nx bk ct : L2.St → Hp → Prop} {rt : VK} {g : TG} {t : TS} {td : TE}
theorem x_lock {d : Addr} {kvs : List (Key × V)} (h : H d = some (.dK kvs)) (k : ∀ od H1, But d H H1 → H1 d = some (.frz od (.dK kvs)) →
    t ⟨fun σ' H' => H' d = some (.frz od (.dK kvs)) ∧ nx σ' (upd H' d (.dK kvs)), fun v H' => H' d = some (.frz od (.dK kvs)) ∧ rt v (upd H' d (.dK kvs)), fun σ' H' => H' d = some (.frz od (.dK kvs)) ∧ bk σ' (upd H' d (.dK kvs)),
      fun σ' H' => H' d = some (.frz od (.dK kvs)) ∧ ct σ' (upd H' d (.dK kvs))⟩ σ H1) : tLock t ⟨nx, rt, bk, ct⟩ σ H := ⟨d, _, h, trivial, fun od => k od _ But.upd upd_same⟩
def kForK (g : TG) (t : TS) (D : Ends) (σ : L2.St) (x : V) (H1 : Hp) : Prop := ∃ d o, x = .ref d ∧ ((∃ kvs, H1 d = some (.frz o (.dK kvs)) ∧ ∃ W : Nat → Nat → L2.St → Hp → Prop, (∃ m, W 0 m σ H1) ∧ ∀ i m σ H, W i m σ H →
  ((Itk d o kvs).stop i H ∧ D.nx σ H) ∨ ((Itk d o kvs).go i H ∧ ∃ N : L2.St → Hp → Prop, (∀ σ' H', N σ' H' → ∃ m', m' < m ∧ W (i + 1) m' σ' H') ∧ ∀ x H', (Itk d o kvs).yld i H x H' → g x σ H' fun σ2 H2 => t { D with nx := N, ct := N, bk := D.nx } σ2 H2)) ∨
  ∃ kvs, H1 d = some (.frz o (.dT kvs)) ∧ ∃ W : Nat → Nat → L2.St → Hp → Prop, (∃ m, W 0 m σ H1) ∧ ∀ i m σ H, W i m σ H →
  ((Itkt d o kvs).stop i H ∧ D.nx σ H) ∨ ((Itkt d o kvs).go i H ∧ ∃ N : L2.St → Hp → Prop, (∀ σ' H', N σ' H' → ∃ m', m' < m ∧ W (i + 1) m' σ' H') ∧ ∀ x H', (Itkt d o kvs).yld i H x H' → g x σ H' fun σ2 H2 => t { D with nx := N, ct := N, bk := D.nx } σ2 H2))
theorem x_forK (h : td σ H fun x H1 => kForK g t ⟨nx, rt, bk, ct⟩ σ x H1) : tFor (iKeys td) g t ⟨nx, rt, bk, ct⟩ σ H := h
theorem x_kForK {d : Addr} {o : Obj} {kvs : List (Key × V)} (hx : H d = some (.frz o (.dK kvs))) (Pv : Nat → L2.St → Hp → Prop) (h0 : Pv 0 σ H) (hl : ∀ i σ H, i ≤ kvs.length → Pv i σ H → H d = some (.frz o (.dK kvs)))
    (hs : ∀ i k v σ H, kvs[i]? = some (k, v) → Pv i σ H → g (kV k) σ H fun σ2 H2 => t ⟨Pv (i + 1), rt, nx, Pv (i + 1)⟩ σ2 H2) (hd : ∀ σ H, Pv kvs.length σ H → nx σ H) : kForK g t ⟨nx, rt, bk, ct⟩ σ (.ref d) H := by
  refine ⟨d, o, rfl, .inl ⟨kvs, hx, fun i m σ H => m = kvs.length - i ∧ i ≤ kvs.length ∧ Pv i σ H, ⟨kvs.length, rfl, Nat.zero_le _, h0⟩, ?_⟩⟩
  rintro i m σ H ⟨rfl, hi, p⟩
  have q := hl i σ H hi p
  by_cases hlt : i < kvs.length
  · refine .inr ⟨⟨q, hlt⟩, Pv (i + 1), fun σ' H' p' => ⟨kvs.length - (i + 1), by omega, rfl, hlt, p'⟩, fun x H' y => ?_⟩
    obtain ⟨rfl, k, v, e, rfl⟩ := y
    exact hs i k v σ _ e p
  · have e : i = kvs.length := by omega
    subst e
    exact .inl ⟨⟨q, Nat.le_refl _⟩, hd σ H p⟩
end
/-! ### the law's own rate -/
def N__law_common : List Str := ["_law_one", "_law_other"]
def t__law_common (K : PySem.W.Frag) : TS := (tSeq (tWhile (tTest (tOp nGt (tVar 1) (tC (.int 0))))
  (tPar 0 1 (tCons (tVar 1) (tCons (tOp nMod (tVar 0) (tVar 1)) tNil))))
  (tRet (tVar 0)))
theorem rd_lawCommon (K : PySem.W.Frag) : Reads N__law_common spCommon (t__law_common K) := by
  rintro vs H Q E ⟨a, b, rfl, k⟩
  exact rd_common K _ H Q E ⟨a, b, rfl, k⟩
def spLawRate (K : PySem.W.Frag) : Sp := fun vs H Q _ => ∃ (a : Addr) (s : StD), vs = [.ref a] ∧ H a = some (.lst (rowV s)) ∧ StOk s ∧ ∀ q H', Same H H' → H' q = some (.tup (frV (rateD s))) → Q (.ref q) H'
def N__law_rate : List Str := ["_law_row", "_law_number", "_law_parts", "_law_by"]
def t__law_rate (K : PySem.W.Frag) : TS := (tSeq (tAsg (tOp nSub (tOp nMul (tOp (rIxL K) (tVar 0) (tC (.int 4))) (tOp (rIxL K) (tVar 0) (tC (.int 7)))) (tOp nMul (tOp (rIxL K) (tVar 0) (tC (.int 6))) (tOp (rIxL K) (tVar 0) (tC (.int 5))))) (gName 1))
  (tSeq (tAsg (tOp nMul (tOp (rIxL K) (tVar 0) (tC (.int 5))) (tOp (rIxL K) (tVar 0) (tC (.int 7)))) (gName 2))
  (tSeq (tAsg (tCall spCommon [] E0 (tCons (tCB cAbs (tCons (tVar 1) tNil)) (tCons (tVar 2) tNil))) (gName 3))
  (tRet (tTup (tCons (tOp nDiv (tVar 1) (tVar 3)) (tCons (tOp nDiv (tVar 2) (tVar 3)) tNil)))))))
theorem rd_lawRate (K : PySem.W.Frag) : Reads N__law_rate (spLawRate K) (t__law_rate K) := by
  rintro vs H Q E ⟨a, s, rfl, ha, ok, k⟩
  show t__law_rate K _ [some (.ref a), none, none, none] H
  unfold t__law_rate
  unfold rowV at ha
  have c1 := ok.rm
  have c2 := ok.ro
  have c3 := ok.bm
  have c4 := ok.bo
  walk_at "st"
  have hm : s.bm * s.bo < 2 ^ 64 := mul_small ⟨by omega, c3.2⟩ ⟨by omega, c4.2⟩
  have h0 : 0 < s.bm * s.bo := Int.mul_pos c3.1 c4.1
  have hp : s.bm * s.bo = ((s.bm * s.bo).toNat : Int) := (Int.toNat_of_nonneg (Int.le_of_lt h0)).symm
  refine ⟨(s.rm * s.bo - s.ro * s.bm).natAbs, (s.bm * s.bo).toNat, by rw [natAbs_if, ← hp]; rfl, ?_⟩
  have hpos : 0 < (s.bm * s.bo).toNat := by omega
  have hd : CDivW 0 ((Nat.gcd (s.rm * s.bo - s.ro * s.bm).natAbs (s.bm * s.bo).toNat : Nat) : Int) := div_ok (Nat.gcd_pos_of_pos_right _ hpos) (Nat.lt_of_le_of_lt (Nat.le_of_dvd hpos (Nat.gcd_dvd_right _ _)) (by omega))
  walk_at "st"
  refine x_nDiv hd ?_
  walk_at "st"
  refine x_nDiv hd ?_
  walk_at "st"
  refine x_kTup (by walk_at "len") fun q H' _ s' e => k q H' s' ?_
  rw [e]
  unfold rateD lowest frV
  rw [← hp]
theorem frV_lowest (n : Int) {p : Nat} (hp : 0 < p) : (lowest n p).1 * (p : Int) = (lowest n p).2 * n := by
  unfold lowest
  have h1 : ((Nat.gcd n.natAbs p : Nat) : Int) ∣ n := Int.dvd_natAbs.mp (Int.natCast_dvd_natCast.mpr (Nat.gcd_dvd_left _ _))
  have h2 : ((Nat.gcd n.natAbs p : Nat) : Int) ∣ (p : Int) := Int.natCast_dvd_natCast.mpr (Nat.gcd_dvd_right _ _)
  have hg : ((Nat.gcd n.natAbs p : Nat) : Int) ≠ 0 := by
    have := Nat.gcd_pos_of_pos_right n.natAbs hp
    omega
  obtain ⟨a, ea⟩ := h1
  obtain ⟨b, eb⟩ := h2
  generalize hG : ((Nat.gcd n.natAbs p : Nat) : Int) = G at ea eb hg ⊢
  show n / G * (p : Int) = (p : Int) / G * n
  rw [ea, eb, Int.mul_ediv_cancel_left _ hg, Int.mul_ediv_cancel_left _ hg]
  rw [← Int.mul_assoc, Int.mul_comm a G, Int.mul_assoc, Int.mul_comm b (G * a), Int.mul_assoc]
theorem rate_true {s : StD} (ok : StOk s) : (rateD s).1 * s.bm * s.bo = (rateD s).2 * (s.rm * s.bo - s.ro * s.bm) := by
  have c3 := ok.bm
  have c4 := ok.bo
  have h0 : 0 < s.bm * s.bo := Int.mul_pos c3.1 c4.1
  have hp : s.bm * s.bo = ((s.bm * s.bo).toNat : Int) := (Int.toNat_of_nonneg (Int.le_of_lt h0)).symm
  unfold rateD
  rw [Int.mul_assoc, hp, Int.toNat_natCast]
  exact frV_lowest _ (by omega)
theorem rate_part {s : StD} (ok : StOk s) : 0 ≤ (rateD s).2 ∧ (rateD s).2 < 2 ^ 64 := by
  have c3 := ok.bm
  have c4 := ok.bo
  have hm : s.bm * s.bo < 2 ^ 64 := mul_small ⟨by omega, c3.2⟩ ⟨by omega, c4.2⟩
  have h0 : 0 < s.bm * s.bo := Int.mul_pos c3.1 c4.1
  unfold rateD lowest
  have h1 : (0 : Int) ≤ ((s.bm * s.bo).toNat : Int) := Int.natCast_nonneg _
  have h2 : ((s.bm * s.bo).toNat : Int) < 2 ^ 64 := by omega
  exact ⟨Int.ediv_nonneg h1 (Int.natCast_nonneg _), Int.lt_of_le_of_lt (Int.ediv_le_self _ h1) h2⟩
theorem But.sqTd {K : PySem.W.Frag} {H H' : Hp} {p a : Addr} {xs : List V} {ys : List (Key × V)} (u : But p H H') (h : SqT K H a xs) (e : H p = some (.dK ys)) : SqT K H' a xs := by
  rcases h with (h | ⟨o, h⟩) | h
  · exact .inl (.inl (u _ _ (ne_of h e (by intro z; cases z)) h))
  · exact .inl (.inr ⟨o, u _ _ (ne_of h e (by intro z; cases z)) h⟩)
  · exact .inr h
def frD (f : Int × Int) : PyData := .tuple [.int f.1, .int f.2]
theorem dq_fr {H : Hp} {q : Addr} {f : Int × Int} (h : H q = some (.tup (frV f))) : Dq H (frD f) (.ref q) := by
  unfold frD Dq
  exact ⟨q, _, rfl, h, by unfold frV DqAll; exact ⟨_, _, rfl, rfl, by unfold DqAll; exact ⟨_, _, rfl, rfl, rfl⟩⟩⟩
theorem okd_fr (f : Int × Int) : Okd 1 (frD f) := ⟨by simp, fun d hd => by
  simp only [List.mem_cons, List.not_mem_nil, or_false] at hd
  rcases hd with rfl | rfl <;> exact trivial⟩
/-! ### the law -/
def spLaw (K : PySem.W.Frag) : Sp := fun vs H Q _ => ∃ (a : Addr) (ns : List Int), vs = [.ref a] ∧ SqL K H a (ns.map V.int) ∧ ns.length ≤ 63 ∧ ∀ H', Q (.bl true) H'
/-! M1: who goes ahead. -/
open PySem PySem.Spec PyProof.Rows L2
open Evl (tCut)
theorem x_sLt {H : Hp} {Q : VK} {a b : Str} (h : Q (.bl (decide (a.cps.toList < b.cps.toList))) H) : sLt (.str a) (.str b) H Q := ⟨a, b, rfl, rfl, h⟩
def sideW (w : Str) (s u : StD) : Int := if w = "runs" then s.rm else if w = "rate" then (rateD s).1 * (rateD u).2 else s.won
def ahd (d : Bool) (a b : Str × StD) : List Str → Bool
  | [] => d
  | w :: ws => if w = "name" then decide (a.1.cps.toList < b.1.cps.toList) else if sideW w a.2 b.2 = sideW w b.2 a.2 then ahd d a b ws else decide (sideW w b.2 a.2 < sideW w a.2 b.2)
def goesB (ws : List Str) (d : Bool) (a b : Str × StD) : Bool := if a.2.pts = b.2.pts then ahd d a b ws else decide (b.2.pts < a.2.pts)
/-- a team and what it has, in the heap -/
structure Team (K : PySem.W.Frag) (H : Hp) (p : Addr) (e : Ent) : Prop where
  tp : SqT K H p [.str e.k, .ref e.a]
  st : StAt K H e.a e.t e.r e.f e.s
  ok : StOk e.s
theorem Team.same {K : PySem.W.Frag} {H H' : Hp} {p : Addr} {e : Ent} (h : Team K H p e) (s : Same H H') : Team K H' p e := ⟨Same.sqT s h.tp, h.st.kept (l := []) (fun b o _ q => s b o q) (by simp), h.ok⟩
def spGoes (K : PySem.W.Frag) : Sp := fun vs H Q _ => ∃ (p q l : Addr) (e u : Ent) (ws : List Str), vs = [.ref p, .ref q, .ref l] ∧ Team K H p e ∧ Team K H q u ∧ SqL K H l (ws.map V.str) ∧ ws.length ≤ 1000 ∧
  ∀ H', Same H H' → Q (.bl (goesB ws false e.ks u.ks)) H'
theorem rd_half {K : PySem.W.Frag} {H : Hp} {Q : VK} {σ : L2.St} {e u : Ent} {p q : Addr} {i j : Nat} (T : StT K) (hi : σ[i]? = some (some (V.ref p))) (hj : σ[j]? = some (some (V.ref q))) (t1 : Team K H p e) (t2 : Team K H q u)
    (k : ∀ H', Same H H' → Q (.int ((rateD e.s).1 * (rateD u.s).2)) H') :
    tOp nMul (tOp (rIxT K) (tMeth (He.ga K "Standing") "rate" (spRate K) [] E0 (tOp (rIxT K) (tVar i) (tC (.int 1))) tNil) (tC (.int 0))) (tOp (rIxT K) (tMeth (He.ga K "Standing") "rate" (spRate K) [] E0 (tOp (rIxT K) (tVar j) (tC (.int 1))) tNil) (tC (.int 1))) σ H Q := by
  refine x_op (x_op (x_meth (x_op (x_var hi (x_c (x_ixT t1.tp rfl ?_))))))
  obtain ⟨dx, ho⟩ := id t1.st.ob
  refine x_kMeth ho (fl_no (by decide +kernel)) (x_nil ?_)
  refine ⟨e.a, e.t, e.r, e.f, e.s, rfl, t1.st, t1.ok, fun q1 H1 s1 e1 => ?_⟩
  refine x_c (x_ixT (SqT.of e1) rfl ?_)
  have t2' := t2.same s1
  refine x_op (x_meth (x_op (x_var hj (x_c (x_ixT t2'.tp rfl ?_)))))
  obtain ⟨dx2, ho2⟩ := id t2'.st.ob
  refine x_kMeth ho2 (fl_no (by decide +kernel)) (x_nil ?_)
  refine ⟨u.a, u.t, u.r, u.f, u.s, rfl, t2'.st, t2'.ok, fun q2 H2 s2 e2 => ?_⟩
  refine x_c (x_ixT (SqT.of e2) rfl ?_)
  have b := rate_part t2.ok
  exact x_nMul (.inr ⟨by omega, b.2⟩) (k H2 (s1.trans s2))
def N_goes_ahead : List Str := ["one", "other", "breakers", "word", "left", "right"]
def t_goes_ahead (K : PySem.W.Frag) : TS := (tSeq (tIfS (tTest (tOp rNe (tFld K (tOp (rIxT K) (tVar 0) (tC (.int 1))) "points") (tFld K (tOp (rIxT K) (tVar 1) (tC (.int 1))) "points")))
  (tRet (tOp nGt (tFld K (tOp (rIxT K) (tVar 0) (tC (.int 1))) "points") (tFld K (tOp (rIxT K) (tVar 1) (tC (.int 1))) "points")))
  tNext)
  (tSeq (tFor (iList K (tVar 2)) (gName 3)
  (tSeq (tIfS (tTest (tOp rEq (tVar 3) (tC (.str "name"))))
  (tRet (tOp sLt (tOp (rIxT K) (tVar 0) (tC (.int 0))) (tOp (rIxT K) (tVar 1) (tC (.int 0)))))
  tNext)
  (tSeq (tAsg (tOp (rIxL K) (tFld K (tOp (rIxT K) (tVar 0) (tC (.int 1))) "tallies") (tC (.int 0))) (gName 4))
  (tSeq (tAsg (tOp (rIxL K) (tFld K (tOp (rIxT K) (tVar 1) (tC (.int 1))) "tallies") (tC (.int 0))) (gName 5))
  (tCut (tIfS (tTest (tOp rEq (tVar 3) (tC (.str "runs"))))
  (tSeq (tAsg (tOp (rIxL K) (tFld K (tOp (rIxT K) (tVar 0) (tC (.int 1))) "runs") (tC (.int 0))) (gName 4))
  (tAsg (tOp (rIxL K) (tFld K (tOp (rIxT K) (tVar 1) (tC (.int 1))) "runs") (tC (.int 0))) (gName 5)))
  (tIfS (tTest (tOp rEq (tVar 3) (tC (.str "rate"))))
  (tSeq (tAsg (tOp nMul (tOp (rIxT K) (tMeth (He.ga K "Standing") "rate" (spRate K) [] E0 (tOp (rIxT K) (tVar 0) (tC (.int 1))) tNil) (tC (.int 0))) (tOp (rIxT K) (tMeth (He.ga K "Standing") "rate" (spRate K) [] E0 (tOp (rIxT K) (tVar 1) (tC (.int 1))) tNil) (tC (.int 1)))) (gName 4))
  (tAsg (tOp nMul (tOp (rIxT K) (tMeth (He.ga K "Standing") "rate" (spRate K) [] E0 (tOp (rIxT K) (tVar 1) (tC (.int 1))) tNil) (tC (.int 0))) (tOp (rIxT K) (tMeth (He.ga K "Standing") "rate" (spRate K) [] E0 (tOp (rIxT K) (tVar 0) (tC (.int 1))) tNil) (tC (.int 1)))) (gName 5)))
  tNext))
  (tIfS (tTest (tOp rNe (tVar 4) (tVar 5)))
  (tRet (tOp nGt (tVar 4) (tVar 5)))
  tNext))))))
  (tRet (tC (.bl false)))))
theorem rd_goes {K : PySem.W.Frag} (T : StT K) : Reads N_goes_ahead (spGoes K) (t_goes_ahead K) := by
  rintro vs H Q E ⟨p, q, l, e, u, ws, rfl, t1, t2, hl, h1000, k⟩
  show t_goes_ahead K _ [some (.ref p), some (.ref q), some (.ref l), none, none, none] H
  unfold t_goes_ahead
  have tp1 := t1.tp
  have tp2 := t2.tp
  obtain ⟨dx1, ho1⟩ := id t1.st.ob
  obtain ⟨dx2, ho2⟩ := id t2.st.ob
  walk_at "st"
  refine x_ndec (fun h => ?_) (fun h => ?_)
  · walk_at "st"
    have := k H (Same.refl _)
    unfold goesB Ent.ks at this
    rw [if_neg h] at this
    exact this
  walk_at "st"
  refine x_kForL hl (fun i σ H1 => ∃ (a b c : Option V), σ = [some (.ref p), some (.ref q), some (.ref l), a, b, c] ∧ Same H H1 ∧ goesB ws false e.ks u.ks = ahd false e.ks u.ks (ws.drop i))
    ⟨_, _, _, rfl, Same.refl _, by unfold goesB; rw [if_pos (show e.ks.2.pts = u.ks.2.pts from h)]; rfl⟩ ?_ ?_ ?_
  · rintro i σ H1 _ ⟨a, b, c, rfl, s1, _⟩
    exact Same.seq s1 hl
  · rintro i v σ H1 hv ⟨a, b, c, rfl, s1, hg⟩
    rw [List.getElem?_map] at hv
    obtain ⟨w, hw, rfl⟩ := Option.map_eq_some_iff.mp hv
    have hd : ws.drop i = w :: ws.drop (i + 1) := by
      obtain ⟨hlt, he⟩ := List.getElem?_eq_some_iff.mp hw
      rw [← he]; exact List.drop_eq_getElem_cons hlt
    rw [hd] at hg
    have t1' := t1.same s1
    have t2' := t2.same s1
    have tp1' := t1'.tp
    have tp2' := t2'.tp
    have st1 := t1'.st
    have st2 := t2'.st
    obtain ⟨dx1', ho1'⟩ := id st1.ob
    obtain ⟨dx2', ho2'⟩ := id st2.ob
    have ht1 := st1.ht
    have ht2 := st2.ht
    have hr1 := st1.hr
    have hr2 := st2.hr
    walk_at "st"
    refine x_dec (fun c => ?_) (fun c => ?_)
    · walk_at "st"
      have := k H1 s1
      rw [hg, ahd, if_pos c] at this
      exact x_sLt this
    rw [ahd, if_neg c] at hg
    replace hg : goesB ws false e.ks u.ks = if sideW w e.s u.s = sideW w u.s e.s then ahd false e.ks u.ks (ws.drop (i + 1)) else decide (sideW w u.s e.s < sideW w e.s u.s) := hg
    walk_at "st"
    refine x_cut (fun σ' H' => σ' = [some (V.ref p), some (V.ref q), some (V.ref l), some (V.str w), some (V.int (sideW w e.s u.s)), some (V.int (sideW w u.s e.s))] ∧ Same H1 H') ?_ ?_
    · walk_at "st"
      refine x_dec (fun c1 => ?_) (fun c1 => ?_)
      · walk_at "st"
        unfold sideW
        rw [if_pos c1, if_pos c1]
        exact ⟨rfl, Same.refl _⟩
      walk_at "st"
      refine x_dec (fun c2 => ?_) (fun c2 => ?_)
      · refine x_seq (x_asg ?_)
        refine rd_half T (by rfl) (by rfl) t1' t2' fun H2 s2 => ?_
        refine x_g4 ?_
        refine x_asg ?_
        refine rd_half T (by rfl) (by rfl) (t2'.same s2) (t1'.same s2) fun H3 s3 => ?_
        walk_at "st"
        unfold sideW
        rw [if_neg c1, if_neg c1, if_pos c2, if_pos c2]
        exact ⟨rfl, s2.trans s3⟩
      · walk_at "st"
        unfold sideW
        rw [if_neg c1, if_neg c1, if_neg c2, if_neg c2]
        exact ⟨rfl, Same.refl _⟩
    · rintro σ' H2 ⟨rfl, s2⟩
      walk_at "st"
      refine x_ndec (fun c1 => ?_) (fun c1 => ?_)
      · walk_at "st"
        have := k H2 (s1.trans s2)
        rw [hg, if_neg c1] at this
        exact this
      · walk_at "st"
        exact ⟨_, _, _, rfl, s1.trans s2, by rw [hg]; exact if_pos c1⟩
  · rintro σ H1 ⟨a, b, c, rfl, s1, hg⟩
    walk_at "st"
    rw [List.drop_of_length_le (by rw [List.length_map]; omega)] at hg
    have := k H1 s1
    rw [hg] at this
    exact this
/-! M2: the order. -/
open PySem PySem.Spec PyProof.Rows L2
open Evl (tCut)
/-! ### more rules -/
/-- a value that stays frozen from here on: a dict made within a loop's head -/
def tFrz (t : TE) : TE := fun σ H Q => t σ H fun x H1 => ∃ d u, x = .ref d ∧ H1 d = some u ∧ Mut (some u) ∧ ∀ od, Q x (upd H1 d (.frz od u))
theorem pe_frz {X : Cx} {e : Expr} {t : TE} (h : PE X e t) : PE X e (tFrz t) := ⟨fun pins s σ H Q I hw => thn (h.run pins s σ H _ I hw) fun v s1 ⟨x, H1, I1, rx, d, u, ex, hd, mu, hq⟩ => let ⟨od, I2⟩ := I1.lock hd mu; ⟨x, _, I2, rx, hq od⟩⟩
def kFrz (Q : VK) (x : V) (H1 : Hp) : Prop := ∃ d u, x = .ref d ∧ H1 d = some u ∧ Mut (some u) ∧ ∀ od, Q x (upd H1 d (.frz od u))
theorem x_frz {σ : L2.St} {H : Hp} {Q : VK} {t : TE} (h : t σ H fun x H1 => kFrz Q x H1) : tFrz t σ H Q := h
theorem x_kFrz {H : Hp} {Q : VK} {d : Addr} {kvs : List (Key × V)} (a : H d = some (.dK kvs)) (h : ∀ od H', But d H H' → H' d = some (.frz od (.dK kvs)) → Q (.ref d) H') : kFrz Q (.ref d) H := ⟨d, _, rfl, a, trivial, fun od => h od _ But.upd upd_same⟩
def rInsert : V → List V → Hp → VK → Prop := fun x vs H Q => ∃ (l : Addr) (xs : List V) (i : Int) (y : V), x = .ref l ∧ vs = [.int i, y] ∧ H l = some (.lst xs) ∧ xs.length < sizeLine ∧ 0 ≤ i ∧ i < 2 ^ 63 ∧
  Q .non (upd H l (.lst (xs.take i.toNat ++ [y] ++ xs.drop i.toNat)))
theorem mt_insert_ {X : Cx} : MtR X "list.insert" rInsert := mt_insert
def cTuple (K : PySem.W.Frag) : VR := fun xs H Q => ∃ p ys, xs = [.ref p] ∧ ((SqL K H p ys ∧ ∀ l, H l = none → Q (.ref l) (upd H l (.tup ys))) ∨ (SqT K H p ys ∧ Q (.ref p) H))
theorem c_tuple {X : Cx} : CallR X (.type "tuple") (cTuple X.K) := call_tuple_of
section
variable {K : PySem.W.Frag} {σ : L2.St} {H : Hp} {Q : VK} {nx bk ct : L2.St → Hp → Prop} {rt : VK} {g : TG} {t : TS} {td te tb : TE} {tt : TT} {v y : V}
theorem x_insert {p : Addr} {xs : List V} {n : Nat} (a : H p = some (.lst xs)) (l : xs.length < 100000) (hn : n ≤ 100000) (h : ∀ H', But p H H' → H' p = some (.lst (xs.take n ++ [v] ++ xs.drop n)) → Q .non H') : rInsert (.ref p) [.int (n : Int), v] H Q :=
  ⟨p, xs, n, v, rfl, rfl, a, szl l, by omega, by omega, by rw [Int.toNat_natCast]; exact h _ But.upd upd_same⟩
theorem x_tupleL {p : Addr} {xs : List V} (a : SqL K H p xs) (h : ∀ l H', H l = none → Same H H' → H' l = some (.tup xs) → Q (.ref l) H') : cTuple K [.ref p] H Q := ⟨p, xs, rfl, .inl ⟨a, fun l hl => h l _ hl (Same.new hl) upd_same⟩⟩
def kForI (g : TG) (t : TS) (D : Ends) (σ : L2.St) (x : V) (H1 : Hp) : Prop := ∃ d o kvs, x = .ref d ∧ H1 d = some (.frz o (.dK kvs)) ∧ ∃ W : Nat → Nat → L2.St → Hp → Prop, (∃ m, W 0 m σ H1) ∧ ∀ i m σ H, W i m σ H →
  ((Iti d o kvs).stop i H ∧ D.nx σ H) ∨ ((Iti d o kvs).go i H ∧ ∃ N : L2.St → Hp → Prop, (∀ σ' H', N σ' H' → ∃ m', m' < m ∧ W (i + 1) m' σ' H') ∧ ∀ x H', (Iti d o kvs).yld i H x H' → g x σ H' fun σ2 H2 => t { D with nx := N, ct := N, bk := D.nx } σ2 H2)
theorem x_forI (h : td σ H fun x H1 => kForI g t ⟨nx, rt, bk, ct⟩ σ x H1) : tFor (iItems td) g t ⟨nx, rt, bk, ct⟩ σ H := h
theorem x_kForI {d : Addr} {o : Obj} {kvs : List (Key × V)} (hx : H d = some (.frz o (.dK kvs))) (Pv : Nat → L2.St → Hp → Prop) (h0 : Pv 0 σ H) (hl : ∀ i σ H, i ≤ kvs.length → Pv i σ H → H d = some (.frz o (.dK kvs)))
    (hs : ∀ i k v σ H q H1, kvs[i]? = some (k, v) → Pv i σ H → H q = none → Same H H1 → H1 q = some (.tup [kV k, v]) → g (.ref q) σ H1 fun σ2 H2 => t ⟨Pv (i + 1), rt, nx, Pv (i + 1)⟩ σ2 H2) (hd : ∀ σ H, Pv kvs.length σ H → nx σ H) : kForI g t ⟨nx, rt, bk, ct⟩ σ (.ref d) H := by
  refine ⟨d, o, kvs, rfl, hx, fun i m σ H => m = kvs.length - i ∧ i ≤ kvs.length ∧ Pv i σ H, ⟨kvs.length, rfl, Nat.zero_le _, h0⟩, ?_⟩
  rintro i m σ H ⟨rfl, hi, p⟩
  have q := hl i σ H hi p
  by_cases hlt : i < kvs.length
  · refine .inr ⟨⟨q, hlt⟩, Pv (i + 1), fun σ' H' p' => ⟨kvs.length - (i + 1), by omega, rfl, hlt, p'⟩, fun x H' y => ?_⟩
    obtain ⟨T, k, v, e, rfl, n, rfl⟩ := y
    exact hs i k v σ _ T _ e p n (Same.new n) upd_same
  · have e : i = kvs.length := by omega
    subst e
    exact .inl ⟨⟨q, Nat.le_refl _⟩, hd σ H p⟩
def kLcL (K : PySem.W.Frag) (g : TG) (tt : TT) (te : TE) (vs : List Nat) (σ : L2.St) (Q : VK) (x : V) (H1 : Hp) : Prop := ∃ a, x = .ref a ∧ (∃ xs, SqL K H1 a xs) ∧ ∀ D, H1 D = none → ∃ W : Nat → Nat → Hp → Prop, (∃ m, W 0 m (upd H1 D (.lst []))) ∧ ∀ i m H, W i m H →
  ((Itl K a).stop i H ∧ Q (.ref D) H) ∨ ((Itl K a).go i H ∧ ∃ Nx : Hp → Prop, (∀ H', Nx H' → ∃ m', m' < m ∧ W (i + 1) m' H') ∧ ∀ x H', (Itl K a).yld i H x H' → g x (wipe σ vs) H' fun σ2 H2 => wipe σ2 vs = wipe σ vs ∧ tt σ2 H2 fun b H3 =>
    if b = true then te σ2 H3 fun y H4 => ∃ acc, H4 D = some (.lst acc) ∧ acc.length < sizeLine ∧ Nx (upd H4 D (.lst (acc ++ [y]))) else Nx H3)
theorem x_lcL {vs : List Nat} (h : td σ H fun x H1 => kLcL K g tt te vs σ Q x H1) : tLc (iList K td) g tt te vs σ H Q := h
def kAcc (D : Addr) (N : Hp → Prop) (y : V) (H4 : Hp) : Prop := ∃ acc, H4 D = some (.lst acc) ∧ acc.length < sizeLine ∧ N (upd H4 D (.lst (acc ++ [y])))
theorem x_kAcc {D : Addr} {N : Hp → Prop} {acc : List V} (e : H D = some (.lst acc)) (l : acc.length < 100000) (h : ∀ H', But D H H' → H' D = some (.lst (acc ++ [y])) → N H') : kAcc D N y H := ⟨acc, e, szl l, h _ But.upd upd_same⟩
theorem x_kLcL {vs : List Nat} {a : Addr} {xs : List V} (hx : SqL K H a xs) (Pv : Addr → Nat → Hp → Prop) (h0 : ∀ D H1, H D = none → Same H H1 → H1 D = some (.lst []) → Pv D 0 H1) (hl : ∀ D i H, i ≤ xs.length → Pv D i H → SqL K H a xs)
    (hs : ∀ D i x H, xs[i]? = some x → Pv D i H → g x (wipe σ vs) H fun σ2 H2 => wipe σ2 vs = wipe σ vs ∧ tt σ2 H2 fun b H3 => if b = true then te σ2 H3 fun y H4 => kAcc D (Pv D (i + 1)) y H4 else Pv D (i + 1) H3)
    (hd : ∀ D H, Pv D xs.length H → Q (.ref D) H) : kLcL K g tt te vs σ Q (.ref a) H :=
  ⟨a, rfl, ⟨xs, hx⟩, fun D hD => lc_list (Pv D) (h0 D _ hD (Same.new hD) upd_same) (fun i H hi p => hl D i H hi p) (fun i x H e p => hs D i x H e p) (fun H p => hd D H p)⟩
end
/-! ### the mirror: each put in behind those that it doesn't go ahead of -/
def posK (ws : List Str) (x : Str × StD) (acc : List (Str × StD)) : Nat → Nat
  | 0 => 0
  | n + 1 => match acc[n]? with
    | some u => if goesB ws false x u = true then posK ws x acc n else n + 1
    | none => n + 1
theorem posK_le (ws : List Str) (x : Str × StD) (acc : List (Str × StD)) : ∀ n, posK ws x acc n ≤ n
  | 0 => Nat.le_refl _
  | n + 1 => by
    unfold posK
    split
    · split
      · have := posK_le ws x acc n; omega
      · omega
    · omega
def insK (ws : List Str) (acc : List (Str × StD)) (x : Str × StD) : List (Str × StD) := acc.take (posK ws x acc acc.length) ++ [x] ++ acc.drop (posK ws x acc acc.length)
def sortK (ws : List Str) (l : List (Str × StD)) : List (Str × StD) := l.foldl (insK ws) []
theorem insK_len (ws : List Str) (acc : List (Str × StD)) (x : Str × StD) : (insK ws acc x).length = acc.length + 1 := by
  unfold insK
  have := posK_le ws x acc acc.length
  simp only [List.length_append, List.length_take, List.length_drop, List.length_singleton]
  omega
def row5 (s : Str × StD) : List V := [.str s.1, .int s.2.pts, .int s.2.won, .int s.2.tied, .int s.2.lost]
/-- at l the rows told: a tuple each, the rate a tuple in it -/
structure RowsAt (K : PySem.W.Frag) (H : Hp) (l : Addr) (ps : List (Addr × Addr × (Str × StD))) : Prop where
  hl : H l = some (.lst (ps.map fun p => .ref p.1))
  hr : ∀ p ∈ ps, H p.1 = some (.tup (row5 p.2.2 ++ [.ref p.2.1])) ∧ H p.2.1 = some (.tup (frV (rateD p.2.2.2)))
def spStanding (K : PySem.W.Frag) : Sp := fun vs H Q _ => ∃ (p bl gl : Addr) (x y z : Int) (ws : List Str) (gs : List Game), vs = [.ref p, .ref bl, .ref gl] ∧ SqT K H p [.int x, .int y, .int z] ∧ SqL K H bl (ws.map V.str) ∧ ws.length ≤ 1000 ∧ GsAt K H gl gs ∧ gs.length ≤ 1000 ∧ (∀ g ∈ gs, GameOk g) ∧
  ∀ l H' ps, Same H H' → H l = none → RowsAt K H' l ps → ps.map (fun p => p.2.2) = sortK ws (stands x y z gs) → Q (.ref l) H'
def N_standing : List Str := ["points", "breakers", "games", "order", "team", "mine", "at"]
def t_standing (K : PySem.W.Frag) : TS := (tSeq (tAsg (tLst tNil) (gName 3))
  (tSeq (tFor (iItems (tFrz (tCall (spStandings K) [] E0 (tCons (tVar 0) (tCons (tVar 2) tNil))))) (gTup K 2 (gCons (gName 4) (gCons (gName 5) gNil)))
  (tSeq (tAsg (tCB (cLenQ K) (tCons (tVar 3) tNil)) (gName 6))
  (tSeq (tWhile (tAnd (tTest (tOp nGt (tVar 6) (tC (.int 0)))) (tB (tCall (spGoes K) [] E0 (tCons (tTup (tCons (tVar 4) (tCons (tVar 5) tNil))) (tCons (tOp (rIxL K) (tVar 3) (tOp nSub (tVar 6) (tC (.int 1)))) (tCons (tVar 1) tNil))))))
  (tAug 6 (tC (.int 1)) (ipI fun i j => i - j)))
  (tDrop (tBM K "list" rInsert (tVar 3) (tCons (tVar 6) (tCons (tTup (tCons (tVar 4) (tCons (tVar 5) tNil))) tNil)))))))
  (tRet (tLc (iList K (tVar 3)) (gTup K 2 (gCons (gName 4) (gCons (gName 5) gNil))) tYes (tOp (rCatA K) (tOp (rCatA K) (tTup (tCons (tVar 4) (tCons (tFld K (tVar 5) "points") tNil))) (tCB (cTuple K) (tCons (tFld K (tVar 5) "tallies") tNil))) (tTup (tCons (tMeth (He.ga K "Standing") "rate" (spRate K) [] E0 (tVar 5) tNil) tNil))) [4, 5]))))
theorem stands_len (x y z : Int) (gs : List Game) : (stands x y z gs).length ≤ 2 * gs.length := by
  have h : ∀ (gs : List Game) (acc : List (Str × StD)), (gs.foldl (turnS x y z) acc).length ≤ acc.length + 2 * gs.length := by
    intro gs
    induction gs with
    | nil => intro acc; simp
    | cons g r ih =>
      intro acc
      have h1 := ih (turnS x y z acc g)
      have h2 := turnS_len x y z acc g
      simp only [List.foldl_cons, List.length_cons]
      omega
  have := h gs []
  simp only [List.length_nil, Nat.zero_add] at this
  exact this
theorem rd_standing {K : PySem.W.Frag} (T : StT K) : Reads N_standing (spStanding K) (t_standing K) := by
  rintro vs H Q E ⟨p, bl, gl, x, y, z, ws, gs, rfl, hp, hb, h1000, hg, hgl, hok, k⟩
  show t_standing K _ [some (.ref p), some (.ref bl), some (.ref gl), none, none, none, none] H
  unfold t_standing
  walk_at "st"
  refine x_kLst (by walk_at "len") fun o H1 n1 s1 e1 => ?_
  walk_at "st"
  refine x_forI (x_frz ?_)
  walk_at "st"
  refine ⟨p, gl, x, y, z, gs, rfl, Same.sqT s1 hp, hg.same s1, hgl, fun d H2 L Tb hL => ?_⟩
  refine x_kFrz Tb.hd fun od H3 b3 e3 => ?_
  have hod : o ≠ d := fun z => by
    have := Tb.d0
    rw [← z, e1] at this
    cases this
  have e3o : H3 o = some (.lst []) := b3 _ _ hod (Tb.same _ _ e1)
  have hp1 : Same H H3 := fun b u hb => b3 _ _ (fun z => by rw [z] at hb; have := Tb.d0; rw [s1 _ _ hb] at this; cases this) (Tb.same _ _ (s1 _ _ hb))
  have hoks := stands_all (x := x) (y := y) (z := z) hok hgl
  have hfeet : ∀ e ∈ L, ∀ q ∈ e.foot, q ≠ o := fun e me q hq z => by
    have := Tb.new q (mem_feet me hq)
    rw [z, e1] at this
    cases this
  have hents : ∀ e ∈ L, StAt K H3 e.a e.t e.r e.f e.s := fun e me => (Tb.hs e me).kept (l := [d]) (fun b o' hb q => b3 b o' (by simpa using hb) q) fun q hq m => Tb.dnew (by rw [← List.mem_singleton.mp m]; exact mem_feet me hq)
  refine x_kForI e3 (fun i σ H4 => ∃ (a b c : Option V) (ps : List (Addr × Ent)), σ = [some (.ref p), some (.ref bl), some (.ref gl), some (.ref o), a, b, c] ∧ But o H3 H4 ∧ H4 o = some (.lst (ps.map fun q => .ref q.1)) ∧
      (∀ q ∈ ps, SqT K H4 q.1 [.str q.2.k, .ref q.2.a] ∧ q.2 ∈ L) ∧ ps.map (fun q => q.2.ks) = sortK ws ((L.take i).map Ent.ks) ∧ ps.length = i)
    ⟨_, _, _, [], rfl, fun _ _ _ e => e, e3o, by simp, rfl, rfl⟩ ?_ ?_ ?_
  · rintro i σ H4 _ ⟨_, _, _, _, _, b4, _⟩
    exact b4 _ _ hod.symm e3
  · rintro i kk v σ H4 T1 H5 hi ⟨a, b, c, ps, rfl, b4, e4, hps, hsort, hlen⟩ nT s5 e5
    rw [List.getElem?_map] at hi
    obtain ⟨e, he, hkv⟩ := Option.map_eq_some_iff.mp hi
    have me : e ∈ L := List.mem_of_getElem? he
    obtain rfl : Sum.inr e.k = kk := congrArg Prod.fst hkv
    obtain rfl : V.ref e.a = v := congrArg Prod.snd hkv
    refine x_gtup (SqT.of e5) rfl ?_
    walk_at "st"
    rw [show (List.map (fun q : Addr × Ent => V.ref q.1) ps).length = i by rw [List.length_map, hlen]]
    have b5 : But o H3 H5 := fun b u hb q => s5 _ _ (b4 _ _ hb q)
    have hps5 : ∀ q ∈ ps, ∀ H', Same H5 H' → Team K H' q.1 q.2 := fun q hq H' s' => by
      obtain ⟨h1, h2⟩ := hps q hq
      refine Team.same ⟨Same.sqT s5 h1, (hents q.2 h2).kept (l := [o]) (fun b u hb q => b5 b u (by simpa using hb) q) (fun x hx m => hfeet q.2 h2 x hx (List.mem_singleton.mp m)), ?_⟩ s'
      exact hoks q.2.ks (by rw [← hL]; exact List.mem_map.mpr ⟨q.2, h2, rfl⟩)
    have hte : ∀ H' q, Same H5 H' → SqT K H' q [.str e.k, .ref e.a] → Team K H' q e := fun H' q s' hq => by
      refine ⟨hq, StAt.kept (l := []) (fun b o' _ q => s' b o' q) ((hents e me).kept (l := [o]) (fun b u hb q => b5 b u (by simpa using hb) q) (fun x hx m => hfeet e me x hx (List.mem_singleton.mp m))) (by simp), ?_⟩
      exact hoks e.ks (by rw [← hL]; exact List.mem_map.mpr ⟨e, me, rfl⟩)
    have e5o : H5 o = some (.lst (ps.map fun q => .ref q.1)) := s5 _ _ e4
    have hb5 : ∀ H', Same H5 H' → SqL K H' bl (ws.map V.str) := fun H' s' => Same.seq ((Same.but hp1 n1 b5).trans s') hb
    have hi1000 : i ≤ 2000 := by
      have h1 : i < L.length := (List.getElem?_eq_some_iff.mp he).1
      have h2 := stands_len x y z gs
      rw [← hL, List.length_map] at h2
      omega
    refine x_while (fun m σ' H6 => ∃ n : Nat, σ' = [some (.ref p), some (.ref bl), some (.ref gl), some (.ref o), some (.str e.k), some (.ref e.a), some (.int (n : Int))] ∧ Same H5 H6 ∧ n ≤ i ∧ m = n ∧
      posK ws e.ks (ps.map fun q => q.2.ks) i = posK ws e.ks (ps.map fun q => q.2.ks) n) i ⟨i, rfl, Same.refl _, Nat.le_refl _, rfl, rfl⟩ ?_
    have fin : ∀ (n : Nat) H6, Same H5 H6 → n ≤ i → posK ws e.ks (ps.map fun q => q.2.ks) i = n → tDrop (tBM K "list" rInsert (tVar 3) (tCons (tVar 6) (tCons (tTup (tCons (tVar 4) (tCons (tVar 5) tNil))) tNil)))
        ⟨fun σ H4 => ∃ (a b c : Option V) (ps : List (Addr × Ent)), σ = [some (.ref p), some (.ref bl), some (.ref gl), some (.ref o), a, b, c] ∧ But o H3 H4 ∧ H4 o = some (.lst (ps.map fun q => .ref q.1)) ∧
      (∀ q ∈ ps, SqT K H4 q.1 [.str q.2.k, .ref q.2.a] ∧ q.2 ∈ L) ∧ ps.map (fun q => q.2.ks) = sortK ws ((L.take (i + 1)).map Ent.ks) ∧ ps.length = i + 1, Q, fun _ _ => False, fun _ _ => False⟩
        [some (.ref p), some (.ref bl), some (.ref gl), some (.ref o), some (.str e.k), some (.ref e.a), some (.int (n : Int))] H6 := by
      intro n H6 s6 hn hpos
      have e6o := s6 _ _ e5o
      walk_at "st"
      refine x_kTup (by walk_at "len") fun q7 H7 n7 s7 e7 => ?_
      walk_at "st"
      refine x_insert (s7 _ _ e6o) (by rw [List.length_map]; omega) (by omega) fun H8 b8 e8 => ?_
      walk_at "st"
      have ho7 : H7 o = some (.lst (ps.map fun q => .ref q.1)) := s7 _ _ e6o
      refine ⟨_, _, _, ps.take n ++ [(q7, e)] ++ ps.drop n, rfl, fun b u hb q => b8 _ _ hb (s7 _ _ (s6 _ _ (b5 _ _ hb q))), ?_, fun q hq => ?_, ?_, ?_⟩
      · rw [e8, List.map_append, List.map_append, List.map_take, List.map_drop]
        rfl
      · have hq' : q ∈ ps ∨ q = (q7, e) := by
          rcases List.mem_append.mp hq with h | h
          · rcases List.mem_append.mp h with h | h
            · exact .inl (List.mem_of_mem_take h)
            · exact .inr (List.mem_singleton.mp h)
          · exact .inl (List.mem_of_mem_drop h)
        rcases hq' with h | rfl
        · exact ⟨But.sqT b8 (Same.sqT ((s5.trans s6).trans s7) (hps q h).1) ho7, (hps q h).2⟩
        · exact ⟨But.sqT b8 (SqT.of e7) ho7, me⟩
      · have ht : L.take (i + 1) = L.take i ++ [e] := by rw [List.take_add_one, he]; rfl
        have hlen' : (List.map (fun q : Addr × Ent => q.2.ks) ps).length = i := by rw [List.length_map, hlen]
        have hr : sortK ws ((L.take (i + 1)).map Ent.ks) = insK ws (sortK ws ((L.take i).map Ent.ks)) e.ks := by
          rw [ht, List.map_append, sortK, List.foldl_append]
          rfl
        rw [hr, ← hsort, insK, hlen', hpos, List.map_append, List.map_append, List.map_take, List.map_drop]
        rfl
      · simp only [List.length_append, List.length_take, List.length_drop, List.length_singleton]
        omega
    rintro m σ' H6 ⟨n, rfl, s6, hn, rfl, hpos⟩
    have e6o := s6 _ _ e5o
    walk_at "st"
    refine x_dec (fun c => ?_) (fun c => ?_)
    · obtain ⟨n, rfl⟩ : ∃ n, m = n + 1 := ⟨m - 1, by omega⟩
      have hlt : n < ps.length := by omega
      walk_at "st"
      refine x_kTup (by walk_at "len") fun q7 H7 n7 s7 e7 => ?_
      walk_at "st"
      rw [show (((n + 1 : Nat) : Int) - 1) = ((n : Nat) : Int) by omega]
      refine x_ixL (v := .ref ps[n].1) (SqL.of (s7 _ _ e6o)) (atI_nat (by rw [List.getElem?_map, List.getElem?_eq_getElem hlt]; rfl)) ?_
      walk_at "st"
      refine ⟨q7, ps[n].1, bl, e, ps[n].2, ws, rfl, hte H7 q7 (s6.trans s7) (SqT.of e7), hps5 _ (List.getElem_mem hlt) H7 (s6.trans s7), hb5 H7 (s6.trans s7), h1000, fun H8 s8 => ?_⟩
      have hpn : posK ws e.ks (ps.map fun q => q.2.ks) (n + 1) = if goesB ws false e.ks ps[n].2.ks = true then posK ws e.ks (ps.map fun q => q.2.ks) n else n + 1 := by
        rw [posK, List.getElem?_map, List.getElem?_eq_getElem hlt]
        rfl
      walk_at "st"
      refine x_bool (fun g => ?_) (fun g => ?_)
      · rw [if_pos g] at hpn
        walk_at "st"
        refine x_aug rfl ?_
        walk_at "st"
        refine x_kAug rfl ?_
        rw [show (((n + 1 : Nat) : Int) - 1) = ((n : Nat) : Int) by omega]
        exact ⟨n, Nat.lt_succ_self n, n, rfl, (s6.trans s7).trans s8, by omega, rfl, hpos.trans hpn⟩
      · rw [if_neg (by rw [g]; exact Bool.false_ne_true)] at hpn
        exact fin (n + 1) H8 ((s6.trans s7).trans s8) hn (hpos.trans hpn)
    · obtain rfl : m = 0 := by omega
      exact fin 0 H6 s6 hn hpos
  · rintro σ H4 ⟨a, b, c, ps, rfl, b4, e4, hps, hsort, hlen⟩
    walk_at "st"
    have hlen' : ps.length = L.length := by rw [hlen, List.length_map]
    have hL2 : L.length ≤ 2000 := by
      have h2 := stands_len x y z gs
      rw [← hL, List.length_map] at h2
      omega
    refine x_lcL ?_
    walk_at "st"
    refine x_kLcL (SqL.of e4) (fun D j H5 => Same H4 H5 ∧ H4 D = none ∧ ∃ rs : List (Addr × Addr × (Str × StD)), RowsAt K H5 D rs ∧ rs.map (fun r => r.2.2) = (ps.take j).map fun q => q.2.ks)
      (fun D H5 nD s5 e5 => ⟨s5, nD, [], ⟨e5, by simp⟩, rfl⟩) ?_ ?_ ?_
    · rintro D j H5 _ ⟨s5, _, _⟩
      exact SqL.of (s5 _ _ e4)
    · rintro D j v H5 hv ⟨s5, nD, rs, hrs, hm⟩
      rw [List.getElem?_map] at hv
      obtain ⟨q, hq, rfl⟩ := Option.map_eq_some_iff.mp hv
      have mq : q ∈ ps := List.mem_of_getElem? hq
      obtain ⟨h1, h2⟩ := hps q mq
      rw [show wipe [some (V.ref p), some (V.ref bl), some (V.ref gl), some (V.ref o), a, b, c] [4, 5] = [some (V.ref p), some (V.ref bl), some (V.ref gl), some (V.ref o), none, none, c] from rfl]
      refine x_gtup (Same.sqT s5 h1) rfl ?_
      walk_at "st"
      refine ⟨rfl, ?_⟩
      unfold tYes
      refine iteT ?_
      have st5 : StAt K H5 q.2.a q.2.t q.2.r q.2.f q.2.s := StAt.kept (l := []) (fun b o' _ q => s5 b o' q) ((hents q.2 h2).kept (l := [o]) (fun b u hb q => b4 b u (by simpa using hb) q) (fun x hx m => hfeet q.2 h2 x hx (List.mem_singleton.mp m))) (by simp)
      obtain ⟨dx, ho5⟩ := id st5.ob
      walk_at "st"
      refine x_kTup (by walk_at "len") fun q6 H6 n6 s6 e6 => ?_
      have ho6 := s6 _ _ ho5
      have ht6 := s6 _ _ st5.ht
      walk_at "st"
      refine x_tupleL (SqL.of ht6) fun q7 H7 n7 s7 e7 => ?_
      walk_at "st"
      refine x_catA (SqT.of (s7 _ _ e6)) (SqT.of e7) (by simp) (by simp) (by walk_at "len") fun q8 H8 n8 s8 e8 => ?_
      walk_at "st"
      have s58 : Same H5 H8 := (s6.trans s7).trans s8
      refine x_kMeth (s58 _ _ ho5) (fl_no (by decide +kernel)) ?_
      walk_at "st"
      have okq : StOk q.2.s := hoks q.2.ks (by rw [← hL]; exact List.mem_map.mpr ⟨q.2, h2, rfl⟩)
      refine ⟨q.2.a, q.2.t, q.2.r, q.2.f, q.2.s, rfl, st5.kept (l := []) (fun b o' _ q => s58 b o' q) (by simp), okq, fun q9 H9 s9 e9 => ?_⟩
      walk_at "st"
      refine x_kTup (by walk_at "len") fun qa Ha na sa ea => ?_
      walk_at "st"
      refine x_catA (SqT.of (sa _ _ (s9 _ _ e8))) (SqT.of ea) (by simp) (by simp) (by walk_at "len") fun qb Hb nb sb eb => ?_
      have s5b : Same H5 Hb := ((s58.trans s9).trans sa).trans sb
      have hlr : rs.length ≤ 2000 := by
        have := congrArg List.length hm
        rw [List.length_map, List.length_map, List.length_take] at this
        omega
      refine x_kAcc (s5b _ _ hrs.hl) (by rw [List.length_map]; omega) fun Hc bc ec => ?_
      have hD : Hb D = some (.lst (rs.map fun p => V.ref p.1)) := s5b _ _ hrs.hl
      refine ⟨Same.but (s5.trans s5b) nD bc, nD, rs ++ [(qb, q9, q.2.ks)], ⟨by rw [ec, List.map_append]; rfl, fun r hr => ?_⟩, ?_⟩
      · rcases List.mem_append.mp hr with h | h
        · obtain ⟨g1, g2⟩ := hrs.hr r h
          have g1' := s5b _ _ g1
          have g2' := s5b _ _ g2
          exact ⟨bc _ _ (ne_of g1' hD (by intro z; cases z)) g1', bc _ _ (ne_of g2' hD (by intro z; cases z)) g2'⟩
        · obtain rfl := List.mem_singleton.mp h
          have g2' := sb _ _ (sa _ _ e9)
          exact ⟨bc _ _ (ne_of eb hD (by intro z; cases z)) eb, bc _ _ (ne_of g2' hD (by intro z; cases z)) g2'⟩
      · have ht : ps.take (j + 1) = ps.take j ++ [q] := by rw [List.take_add_one, hq]; rfl
        rw [ht, List.map_append, List.map_append, hm]
        rfl
    · rintro D H5 ⟨s5, nD, rs, hrs, hm⟩
      have s4 : Same H H4 := Same.but hp1 n1 b4
      refine k D H5 rs (s4.trans s5) (Same.none s4 nD) hrs ?_
      rw [hm, List.length_map, List.take_length, hsort, List.length_map, List.take_length, hL]
/-! M3: the order, in plain words. -/
open PySem PySem.Spec PyProof.Rows L2
theorem str_of_cps {a b : Str} (h : a.cps.toList = b.cps.toList) : a = b := by
  obtain ⟨⟨x⟩⟩ := a
  obtain ⟨⟨y⟩⟩ := b
  have h' : x = y := h
  rw [h']
theorem cps_tri {a b : Str} (h : ¬ a.cps.toList < b.cps.toList) (n : a ≠ b) : b.cps.toList < a.cps.toList := by
  rcases List.le_iff_lt_or_eq.mp (List.not_lt.mp h) with h | h
  · exact h
  · exact absurd (str_of_cps h).symm n
theorem ahd_flip {a x : Str × StD} (n : x.1 ≠ a.1) : ∀ {ws : List Str}, ahd false x a ws = false → ahd true a x ws = true
  | [], _ => rfl
  | w :: ws, h => by
    unfold ahd at h ⊢
    split at h
    · next c =>
      rw [if_pos c]
      exact decide_eq_true (cps_tri (of_decide_eq_false h) n)
    · next c =>
      rw [if_neg c]
      split at h
      · next e => rw [if_pos e.symm]; exact ahd_flip n h
      · next e =>
        have h1 := of_decide_eq_false h
        rw [if_neg fun z => e z.symm]
        exact decide_eq_true (by omega)
theorem ahd_keep {a b : Str × StD} (d : Bool) : ∀ {ws : List Str}, ahd false a b ws = true → ahd d a b ws = true
  | [], h => by cases h
  | w :: ws, h => by
    unfold ahd at h ⊢
    split at h
    · next c => rw [if_pos c]; exact h
    · next c =>
      rw [if_neg c]
      split at h
      · next e => rw [if_pos e]; exact ahd_keep d h
      · next e => rw [if_neg e]; exact h
theorem goes_flip {ws : List Str} {a x : Str × StD} (n : x.1 ≠ a.1) (h : goesB ws false x a = false) : goesB ws true a x = true := by
  unfold goesB at h ⊢
  split at h
  · next e => rw [if_pos e.symm]; exact ahd_flip n h
  · next e =>
    have h1 := of_decide_eq_false h
    rw [if_neg fun z => e z.symm]
    exact decide_eq_true (by omega)
theorem goes_keep {ws : List Str} {a b : Str × StD} (d : Bool) (h : goesB ws false a b = true) : goesB ws d a b = true := by
  unfold goesB at h ⊢
  split at h
  · next e => rw [if_pos e]; exact ahd_keep d h
  · next e => rw [if_neg e]; exact h
/-- neighbours of l stand so in T -/
def Adj (ws : List Str) (T l : List (Str × StD)) : Prop := ∀ (k : Nat) (a b : Str × StD), l[k]? = some a → l[k + 1]? = some b → ∃ i j : Nat, T[i]? = some a ∧ T[j]? = some b ∧ goesB ws (decide (i < j)) a b = true
theorem posK_spec (ws : List Str) (x : Str × StD) (acc : List (Str × StD)) : ∀ n, n ≤ acc.length → (∀ u, posK ws x acc n < n → acc[posK ws x acc n]? = some u → goesB ws false x u = true) ∧ (∀ u m, posK ws x acc n = m + 1 → acc[m]? = some u → goesB ws false x u = false)
  | 0, _ => ⟨fun u h => absurd h (Nat.not_lt_zero _), fun u m h => by cases h⟩
  | n + 1, hn => by
    obtain ⟨ih1, ih2⟩ := posK_spec ws x acc n (by omega)
    have hs : acc[n]? = some acc[n] := List.getElem?_eq_getElem (by omega)
    unfold posK
    rw [hs]
    dsimp only
    split
    · next g =>
      refine ⟨fun u h1 h2 => ?_, ih2⟩
      have := posK_le ws x acc n
      by_cases c : posK ws x acc n < n
      · exact ih1 u c h2
      · have e : posK ws x acc n = n := by omega
        rw [e, hs] at h2
        rw [← Option.some.inj h2]
        exact g
    · next g =>
      refine ⟨fun u h => absurd h (Nat.lt_irrefl _), fun u m h h2 => ?_⟩
      obtain rfl : m = n := by omega
      rw [hs] at h2
      rw [← Option.some.inj h2]
      simpa using g
theorem insK_at {ws : List Str} {acc : List (Str × StD)} {x : Str × StD} (k : Nat) : (insK ws acc x)[k]? = if k < posK ws x acc acc.length then acc[k]? else if k = posK ws x acc acc.length then some x else acc[k - 1]? := by
  have hm := posK_le ws x acc acc.length
  unfold insK
  generalize posK ws x acc acc.length = m at hm
  have ht : (acc.take m).length = m := by rw [List.length_take]; omega
  rw [List.append_assoc]
  by_cases c : k < m
  · rw [if_pos c, List.getElem?_append_left (by omega), List.getElem?_take_of_lt c]
  · rw [if_neg c, List.getElem?_append_right (by omega), ht]
    by_cases e : k = m
    · rw [if_pos e, e, Nat.sub_self]; rfl
    · rw [if_neg e, List.getElem?_append_right (by simp; omega), List.getElem?_drop]
      congr 1
      simp
      omega
theorem sort_step {ws : List Str} {T acc : List (Str × StD)} {n : Nat} {x : Str × StD} (nd : (T.map Prod.fst).Nodup) (hx : T[n]? = some x) (hp : acc.Perm (T.take n)) (h : Adj ws T acc) : Adj ws T (insK ws acc x) := by
  have hin : ∀ u, u ∈ acc → ∃ i, i < n ∧ T[i]? = some u := fun u hu => by
    have h1 := hp.mem_iff.mp hu
    obtain ⟨i, hi⟩ := List.getElem?_of_mem h1
    rw [List.getElem?_take] at hi
    split at hi
    · next c => exact ⟨i, c, hi⟩
    · cases hi
  have hne : ∀ u, u ∈ acc → x.1 ≠ u.1 := fun u hu e => by
    obtain ⟨i, hi, hT⟩ := hin u hu
    have h1 : (T.map Prod.fst)[i]? = some u.1 := by rw [List.getElem?_map, hT]; rfl
    have h2 : (T.map Prod.fst)[n]? = some x.1 := by rw [List.getElem?_map, hx]; rfl
    have hlt : i < (T.map Prod.fst).length := (List.getElem?_eq_some_iff.mp h1).1
    have : i = n := (List.getElem?_inj hlt nd).mp (h1.trans (by rw [h2, e]))
    omega
  obtain ⟨p1, p2⟩ := posK_spec ws x acc acc.length (Nat.le_refl _)
  have hm := posK_le ws x acc acc.length
  intro k a b ha hb
  rw [insK_at] at ha hb
  generalize posK ws x acc acc.length = m at p1 p2 hm ha hb
  by_cases c1 : k + 1 < m
  · rw [if_pos (by omega)] at ha
    rw [if_pos c1] at hb
    exact h k a b ha hb
  · rw [if_neg c1] at hb
    by_cases c2 : k + 1 = m
    · rw [if_pos c2] at hb
      rw [if_pos (by omega)] at ha
      obtain rfl := Option.some.inj hb
      have hg := p2 a k c2.symm ha
      have hma : a ∈ acc := List.mem_of_getElem? ha
      obtain ⟨i, hi, hT⟩ := hin a hma
      refine ⟨i, n, hT, hx, ?_⟩
      rw [decide_eq_true hi]
      exact goes_flip (hne a hma) hg
    · rw [if_neg c2] at hb
      rw [if_neg (by omega)] at ha
      by_cases c3 : k = m
      · rw [if_pos c3] at ha
        obtain rfl := Option.some.inj ha
        have hb' : acc[m]? = some b := by rw [← c3]; exact hb
        have hlt : m < acc.length := (List.getElem?_eq_some_iff.mp hb').1
        have hg := p1 b hlt hb'
        obtain ⟨j, hj, hT⟩ := hin b (List.mem_of_getElem? hb')
        exact ⟨n, j, hx, hT, goes_keep _ hg⟩
      · rw [if_neg c3] at ha
        obtain ⟨k', rfl⟩ : ∃ k', k = k' + 1 := ⟨k - 1, by omega⟩
        exact h k' a b ha hb
theorem insK_perm (ws : List Str) (acc : List (Str × StD)) (x : Str × StD) : (insK ws acc x).Perm (acc ++ [x]) := by
  unfold insK
  generalize posK ws x acc acc.length = m
  have h1 : (acc.take m ++ [x] ++ acc.drop m).Perm (acc.take m ++ acc.drop m ++ [x]) := by
    rw [List.append_assoc, List.append_assoc]
    exact List.Perm.append_left _ List.perm_append_comm
  rw [List.take_append_drop] at h1
  exact h1
theorem sort_all {ws : List Str} {T : List (Str × StD)} (nd : (T.map Prod.fst).Nodup) : ∀ n, n ≤ T.length → (sortK ws (T.take n)).Perm (T.take n) ∧ Adj ws T (sortK ws (T.take n))
  | 0, _ => ⟨.nil, fun k a b h => by simp [sortK] at h⟩
  | n + 1, hn => by
    obtain ⟨h1, h2⟩ := sort_all nd n (by omega)
    have hx : T[n]? = some T[n] := List.getElem?_eq_getElem (by omega)
    have ht : T.take (n + 1) = T.take n ++ [T[n]] := by rw [List.take_add_one, hx]; rfl
    have hs : sortK ws (T.take (n + 1)) = insK ws (sortK ws (T.take n)) T[n] := by
      rw [ht, sortK, List.foldl_append]
      rfl
    rw [hs]
    refine ⟨?_, sort_step nd hx h1 h2⟩
    rw [ht]
    exact (insK_perm ws _ _).trans (h1.append_right _)
theorem sort_perm {ws : List Str} {T : List (Str × StD)} (nd : (T.map Prod.fst).Nodup) : (sortK ws T).Perm T := by
  have := (sort_all (ws := ws) nd T.length (Nat.le_refl _)).1
  rwa [List.take_length] at this
theorem sort_adj {ws : List Str} {T : List (Str × StD)} (nd : (T.map Prod.fst).Nodup) : Adj ws T (sortK ws T) := by
  have := (sort_all (ws := ws) nd T.length (Nat.le_refl _)).2
  rwa [List.take_length] at this
/-! ### sorted texts -/
theorem lt_tr {a b c : List Nat} (h1 : ¬ b < a) (h2 : ¬ c < b) : ¬ c < a := fun h => by
  have g1 := List.not_lt.mp h1
  have g2 := List.not_lt.mp h2
  exact (List.not_lt.mpr (List.le_trans g1 g2)) h
theorem rising_pw : ∀ (l : List Str) (p : Str), risingS p l = true → (p :: l).Pairwise (fun a b => ¬ b.cps.toList < a.cps.toList)
  | [], p, _ => by simp
  | x :: r, p, h => by
    have h' : (!ltCps x.cps.toList p.cps.toList && risingS x r) = true := h
    rw [Bool.and_eq_true, ltCps_eq] at h'
    obtain ⟨h1, h2⟩ := h'
    have h1' : ¬ x.cps.toList < p.cps.toList := by simpa using h1
    have ih := rising_pw r x h2
    refine List.pairwise_cons.mpr ⟨fun y hy => ?_, ih⟩
    rcases List.mem_cons.mp hy with rfl | m
    · exact h1'
    · exact lt_tr h1' ((List.pairwise_cons.mp ih).1 y m)
theorem sortedS_pw {l : List Str} (h : sortedS l = true) : l.Pairwise (fun a b => ¬ b.cps.toList < a.cps.toList) := by
  cases l with
  | nil => exact .nil
  | cons x r => exact rising_pw r x h
theorem sortedS_eq {a b : List Str} (ha : sortedS a = true) (hb : sortedS b = true) (p : a.Perm b) : a = b :=
  List.Perm.eq_of_pairwise (fun x y _ _ h1 h2 => Classical.byContradiction fun n => h2 (cps_tri h1 fun e => n e.symm)) (sortedS_pw ha) (sortedS_pw hb) p
/-! M4: the law's own comparing. -/
open PySem PySem.Spec PyProof.Rows L2
open Evl (tCut)
local macro_rules | `(tactic| walk_at "one") => `(tactic| (with_reducible refine x_kPar rfl ?_; dsimp only [List.set]))
def cSortD : VR := fun xs H Q => ∃ (a : Addr) (kvs : List (Key × V)) (ks : List Str), xs = [.ref a] ∧ Rd H a (.dK kvs) ∧ kvs.map (·.1) = ks.map Sum.inr ∧ ks.length < 64 ∧
  ∀ ys p, ys.Perm ks → sortedS ys = true → H p = none → Q (.ref p) (upd H p (.lst (ys.map V.str)))
theorem c_sortD {X : Cx} (hc : X.calm = true) : CallR X (.builtin "sorted") cSortD := call_sortedD hc
section
variable {K : PySem.W.Frag} {H : Hp} {Q : VK}
theorem x_sortD {d : Addr} {kvs : List (Key × V)} {ks : List Str} (a : Rd H d (.dK kvs)) (e : kvs.map (·.1) = ks.map Sum.inr) (l : ks.length < 64) (h : ∀ p ys H', ys.Perm ks → sortedS ys = true → H p = none → Same H H' → H' p = some (.lst (ys.map V.str)) → Q (.ref p) H') : cSortD [.ref d] H Q :=
  ⟨d, kvs, ks, rfl, a, e, l, fun ys p h1 h2 n => h p ys _ h1 h2 n (Same.new n) upd_same⟩
theorem x_sortS {a : Addr} {xs : List Str} (s : SqL K H a (xs.map V.str)) (l : xs.length < 64) (h : ∀ p ys H', ys.Perm xs → sortedS ys = true → H p = none → Same H H' → H' p = some (.lst (ys.map V.str)) → Q (.ref p) H') : rSortedS K [.ref a] H Q :=
  ⟨a, xs, rfl, s, l, fun ys p h1 h2 n => h p ys _ h1 h2 n (Same.new n) upd_same⟩
theorem x_listD {d : Addr} {kvs : List (Key × V)} (a : H d = some (.dK kvs)) (h : ∀ p H', H p = none → Same H H' → H' p = some (.lst (kvs.map fun kv => kV kv.1)) → Q (.ref p) H') : rListD [.ref d] H Q := ⟨d, kvs, rfl, a, fun p n => h p _ n (Same.new n) upd_same⟩
/-- the place of a text among texts, each once -/
theorem x_indexS {a : Addr} {ks : List Str} {j : Nat} {z : Str} (s : SqL K H a (ks.map V.str)) (nd : ks.Nodup) (e : ks[j]? = some z) (h : Q (.int (j : Nat)) H) : rIndex K (.ref a) [.str z] H Q := by
  refine ⟨a, ks.map V.str, .str z, j, .str z, rfl, rfl, s, rfl, by rw [List.all_eq_true]; intro v hv; obtain ⟨k, _, rfl⟩ := List.mem_map.mp hv; rfl, by rw [List.getElem?_map, e]; rfl, by simp [eqV], fun m z' hm hz => ?_, h⟩
  rw [List.getElem?_map] at hz
  obtain ⟨k, hk, rfl⟩ := Option.map_eq_some_iff.mp hz
  have : k ≠ z := fun c => by
    subst c
    have h1 : m = j := (List.getElem?_inj (List.getElem?_eq_some_iff.mp hk).1 nd).mp (hk.trans e.symm)
    omega
  simp [eqV, this]
theorem x_reverse {l : Addr} {xs : List V} (a : H l = some (.lst xs)) (h : ∀ H', But l H H' → H' l = some (.lst xs.reverse) → Q .non H') : rReverse (.ref l) [] H Q := ⟨l, xs, rfl, rfl, a, h _ But.upd upd_same⟩
end
def spLawAhead (K : PySem.W.Frag) : Sp := fun vs H Q _ => ∃ (d bl : Addr) (L : List En) (i j : Nat) (e u : En) (ws : List Str), vs = [.str e.k, .str u.k, .ref d, .ref bl] ∧ H d = some (.dK (L.map En.kv)) ∧ (∀ e ∈ L, H e.a = some (.lst (rowV e.s)) ∧ StOk e.s) ∧ ((L.map En.ks).map Prod.fst).Nodup ∧
  L[i]? = some e ∧ L[j]? = some u ∧ SqL K H bl (ws.map V.str) ∧ ws.length ≤ 1000 ∧ ∀ H', Same H H' → Q (.bl (goesB ws (decide (i < j)) e.ks u.ks)) H'
theorem law_half {K : PySem.W.Frag} {H : Hp} {Q : VK} {σ : L2.St} {e u : En} {i j : Nat} (hi : σ[i]? = some (some (V.ref e.a))) (hj : σ[j]? = some (some (V.ref u.a))) (t1 : H e.a = some (.lst (rowV e.s))) (o1 : StOk e.s) (t2 : H u.a = some (.lst (rowV u.s))) (o2 : StOk u.s)
    (k : ∀ H', Same H H' → Q (.int ((rateD e.s).1 * (rateD u.s).2)) H') :
    tOp nMul (tOp (rIxT K) (tCall (spLawRate K) [] E0 (tCons (tVar i) tNil)) (tC (.int 0))) (tOp (rIxT K) (tCall (spLawRate K) [] E0 (tCons (tVar j) tNil)) (tC (.int 1))) σ H Q := by
  refine x_op (x_op (x_call (x_cons (x_var hi (x_nil ?_)))))
  refine ⟨e.a, e.s, rfl, t1, o1, fun q1 H1 s1 e1 => ?_⟩
  refine x_c (x_ixT (SqT.of e1) rfl ?_)
  refine x_op (x_call (x_cons (x_var hj (x_nil ?_))))
  refine ⟨u.a, u.s, rfl, s1 _ _ t2, o2, fun q2 H2 s2 e2 => ?_⟩
  refine x_c (x_ixT (SqT.of e2) rfl ?_)
  exact x_nMul (.inr ⟨by have := rate_part o2; omega, (rate_part o2).2⟩) (k H2 (s1.trans s2))
def N__law_ahead : List Str := ["_law_one", "_law_other", "_law_rows", "_law_breakers_here", "_law_mine", "_law_yours", "_law_word", "_law_left", "_law_right", "_law_names_here"]
def t__law_ahead (K : PySem.W.Frag) : TS := (tSeq (tPar 4 5 (tCons (tDGet (tVar 2) (tVar 0)) (tCons (tDGet (tVar 2) (tVar 1)) tNil)))
  (tSeq (tIfS (tTest (tOp rNe (tOp (rIxL K) (tVar 4) (tC (.int 3))) (tOp (rIxL K) (tVar 5) (tC (.int 3)))))
  (tRet (tOp nGt (tOp (rIxL K) (tVar 4) (tC (.int 3))) (tOp (rIxL K) (tVar 5) (tC (.int 3)))))
  tNext)
  (tSeq (tFor (iList K (tVar 3)) (gName 6)
  (tSeq (tPar 7 8 (tCons (tOp (rIxL K) (tVar 4) (tC (.int 0))) (tCons (tOp (rIxL K) (tVar 5) (tC (.int 0))) tNil)))
  (tCut (tIfS (tTest (tOp rEq (tVar 6) (tC (.str "rate"))))
  (tSeq (tAsg (tOp nMul (tOp (rIxT K) (tCall (spLawRate K) [] E0 (tCons (tVar 4) tNil)) (tC (.int 0))) (tOp (rIxT K) (tCall (spLawRate K) [] E0 (tCons (tVar 5) tNil)) (tC (.int 1)))) (gName 7))
  (tAsg (tOp nMul (tOp (rIxT K) (tCall (spLawRate K) [] E0 (tCons (tVar 5) tNil)) (tC (.int 0))) (tOp (rIxT K) (tCall (spLawRate K) [] E0 (tCons (tVar 4) tNil)) (tC (.int 1)))) (gName 8)))
  tNext)
  (tCut (tIfS (tTest (tOp rEq (tVar 6) (tC (.str "runs"))))
  (tPar 7 8 (tCons (tOp (rIxL K) (tVar 4) (tC (.int 4))) (tCons (tOp (rIxL K) (tVar 5) (tC (.int 4))) tNil)))
  tNext)
  (tSeq (tIfS (tTest (tOp rEq (tVar 6) (tC (.str "name"))))
  (tRet (tOp sLt (tVar 0) (tVar 1)))
  tNext)
  (tIfS (tTest (tOp rNe (tVar 7) (tVar 8)))
  (tRet (tOp nGt (tVar 7) (tVar 8)))
  tNext))))))
  (tSeq (tAsg (tCB rListD (tCons (tVar 2) tNil)) (gName 9))
  (tRet (tOp nLt (tBM K "list" (rIndex K) (tVar 9) (tCons (tVar 0) tNil)) (tBM K "list" (rIndex K) (tVar 9) (tCons (tVar 1) tNil))))))))
theorem rd_lawAhead (K : PySem.W.Frag) : Reads N__law_ahead (spLawAhead K) (t__law_ahead K) := by
  rintro vs H Q E ⟨d, bl, L, i, j, e, u, ws, rfl, hd, hrows, nd, he, hu, hb, h1000, k⟩
  show t__law_ahead K _ [some (.str e.k), some (.str u.k), some (.ref d), some (.ref bl), none, none, none, none, none, none] H
  unfold t__law_ahead
  have me : e ∈ L := List.mem_of_getElem? he
  have mu : u ∈ L := List.mem_of_getElem? hu
  obtain ⟨t1, o1⟩ := hrows e me
  obtain ⟨t2, o2⟩ := hrows u mu
  have t1' : H e.a = some (.lst [.int e.s.won, .int e.s.tied, .int e.s.lost, .int e.s.pts, .int e.s.rm, .int e.s.bm, .int e.s.ro, .int e.s.bo]) := t1
  have t2' : H u.a = some (.lst [.int u.s.won, .int u.s.tied, .int u.s.lost, .int u.s.pts, .int u.s.rm, .int u.s.bm, .int u.s.ro, .int u.s.bo]) := t2
  walk_at "st"
  refine x_kDGetS (.inl hd) (valV_nd nd me) ?_
  walk_at "st"
  refine x_kDGetS (.inl hd) (valV_nd nd mu) ?_
  walk_at "st"
  refine x_ndec (fun h => ?_) (fun h => ?_)
  · walk_at "st"
    have := k H (Same.refl _)
    unfold goesB En.ks at this
    rw [if_neg h] at this
    exact this
  walk_at "st"
  refine x_kForL hb (fun n σ H1 => ∃ (a b c f : Option V), σ = [some (.str e.k), some (.str u.k), some (.ref d), some (.ref bl), some (.ref e.a), some (.ref u.a), a, b, c, f] ∧ Same H H1 ∧ goesB ws (decide (i < j)) e.ks u.ks = ahd (decide (i < j)) e.ks u.ks (ws.drop n))
    ⟨_, _, _, _, rfl, Same.refl _, by unfold goesB; rw [if_pos (show e.ks.2.pts = u.ks.2.pts from h)]; rfl⟩ ?_ ?_ ?_
  · rintro n σ H1 _ ⟨a, b, c, f, rfl, s1, _⟩
    exact Same.seq s1 hb
  · rintro n v σ H1 hv ⟨a, b, c, f, rfl, s1, hg⟩
    rw [List.getElem?_map] at hv
    obtain ⟨w, hw, rfl⟩ := Option.map_eq_some_iff.mp hv
    have hdr : ws.drop n = w :: ws.drop (n + 1) := by
      obtain ⟨hlt, he⟩ := List.getElem?_eq_some_iff.mp hw
      rw [← he]; exact List.drop_eq_getElem_cons hlt
    rw [hdr, ahd] at hg
    replace hg : goesB ws (decide (i < j)) e.ks u.ks = if w = "name" then decide (e.k.cps.toList < u.k.cps.toList) else if sideW w e.s u.s = sideW w u.s e.s then ahd (decide (i < j)) e.ks u.ks (ws.drop (n + 1)) else decide (sideW w u.s e.s < sideW w e.s u.s) := hg
    have g1 := s1 _ _ t1'
    have g2 := s1 _ _ t2'
    walk_at "st"
    refine x_cut (fun σ' H' => ∃ x y : Int, σ' = [some (V.str e.k), some (V.str u.k), some (V.ref d), some (V.ref bl), some (V.ref e.a), some (V.ref u.a), some (V.str w), some (V.int x), some (V.int y), f] ∧ Same H1 H' ∧ (w ≠ "runs" → x = sideW w e.s u.s ∧ y = sideW w u.s e.s)) ?_ ?_
    · walk_at "st"
      refine x_dec (fun c2 => ?_) (fun c2 => ?_)
      · refine x_seq (x_asg ?_)
        refine law_half (by rfl) (by rfl) g1 o1 g2 o2 fun H2 s2 => ?_
        refine x_g7 ?_
        refine x_asg ?_
        refine law_half (by rfl) (by rfl) (s2 _ _ g2) o2 (s2 _ _ g1) o1 fun H3 s3 => ?_
        walk_at "st"
        refine ⟨_, _, rfl, s2.trans s3, fun c1 => ?_⟩
        unfold sideW
        rw [if_neg c1, if_neg c1, if_pos c2, if_pos c2]
        exact ⟨rfl, rfl⟩
      · walk_at "st"
        refine ⟨_, _, rfl, Same.refl _, fun c1 => ?_⟩
        unfold sideW
        rw [if_neg c1, if_neg c1, if_neg c2, if_neg c2]
        exact ⟨rfl, rfl⟩
    rintro σ' H2 ⟨x, y, rfl, s2, hxy⟩
    have g1 := s2 _ _ g1
    have g2 := s2 _ _ g2
    refine x_cut (fun σ' H' => σ' = [some (V.str e.k), some (V.str u.k), some (V.ref d), some (V.ref bl), some (V.ref e.a), some (V.ref u.a), some (V.str w), some (V.int (sideW w e.s u.s)), some (V.int (sideW w u.s e.s)), f] ∧ H' = H2) ?_ ?_
    · walk_at "st"
      refine x_dec (fun c1 => ?_) (fun c1 => ?_)
      · walk_at "st"
        unfold sideW
        rw [if_pos c1, if_pos c1]
        exact ⟨rfl, rfl⟩
      · walk_at "st"
        obtain ⟨rfl, rfl⟩ := hxy c1
        exact ⟨rfl, rfl⟩
    rintro σ' _ ⟨rfl, rfl⟩
    walk_at "st"
    refine x_dec (fun c => ?_) (fun c => ?_)
    · walk_at "st"
      have := k _ (s1.trans s2)
      rw [hg, if_pos c] at this
      exact x_sLt this
    rw [if_neg c] at hg
    walk_at "st"
    refine x_ndec (fun c1 => ?_) (fun c1 => ?_)
    · walk_at "st"
      have := k _ (s1.trans s2)
      rw [hg, if_neg c1] at this
      exact this
    · walk_at "st"
      exact ⟨_, _, _, _, rfl, s1.trans s2, by rw [hg]; exact if_pos c1⟩
  · rintro σ H1 ⟨a, b, c, f, rfl, s1, hg⟩
    walk_at "st"
    refine x_listD (s1 _ _ hd) fun q H2 n2 s2 e2 => ?_
    have e2' : H2 q = some (.lst (((L.map En.ks).map Prod.fst).map V.str)) := by
      rw [e2, List.map_map, List.map_map, List.map_map]
      rfl
    walk_at "st"
    refine x_indexS (j := i) (SqL.of e2') nd (by rw [List.getElem?_map, List.getElem?_map, he]; rfl) ?_
    walk_at "st"
    refine x_indexS (j := j) (SqL.of e2') nd (by rw [List.getElem?_map, List.getElem?_map, hu]; rfl) ?_
    walk_at "st"
    rw [List.drop_of_length_le (by rw [List.length_map]; omega)] at hg
    have := k H2 (s1.trans s2)
    rw [hg, ahd] at this
    rw [show decide (((i : Nat) : Int) < ((j : Nat) : Int)) = decide (i < j) by rw [decide_eq_decide]; omega]
    exact this
/-! M5: the law of the order. -/
open PySem PySem.Spec PyProof.Rows L2
open Evl (tCut)
local macro_rules | `(tactic| walk_at "one") => `(tactic| first | (with_reducible refine x_kPar rfl ?_; dsimp only [List.set]) | with_reducible refine iteT2 ?_ | with_reducible refine iteF2 ?_)
/-! ### data of lists -/
theorem depthAll_le {n : Nat} : ∀ {ds : List PyData}, (∀ d ∈ ds, d.depth ≤ n) → PyData.depthAll ds ≤ n
  | [], _ => by simp [PyData.depthAll]
  | d :: ds, h => by
    rw [PyData.depthAll]
    have h1 := h d List.mem_cons_self
    have h2 := depthAll_le (ds := ds) fun x m => h x (List.mem_cons_of_mem _ m)
    omega
theorem canAll {ds : List PyData} (h : ∀ d ∈ ds, d.canLay0 = true) : PyData.canLayAll0 ds = true := by
  induction ds with
  | nil => rfl
  | cons d r ih => rw [PyData.canLayAll0, h d List.mem_cons_self, ih fun x m => h x (List.mem_cons_of_mem _ m)]; rfl
/-- data that may be compared, nested to depth n -/
def Shp (n : Nat) (d : PyData) : Prop := d.canLay0 = true ∧ d.depth ≤ n
theorem Shp.shaped {n : Nat} {d : PyData} (h : Shp n d) (hn : n ≤ 64) : SeqAt.shaped d = true := by
  show (d.canLay0 && decide (d.depth ≤ 64)) = true
  rw [h.1, decide_eq_true (Nat.le_trans h.2 hn)]
  rfl
theorem Shp.list {n : Nat} {ds : List PyData} (h : ∀ d ∈ ds, Shp n d) : Shp (n + 1) (.list ds) := by
  refine ⟨?_, ?_⟩
  · rw [PyData.canLay0]; exact canAll fun d m => (h d m).1
  · rw [PyData.depth]
    have := depthAll_le fun d m => (h d m).2
    omega
theorem Shp.tuple {n : Nat} {ds : List PyData} (h : ∀ d ∈ ds, Shp n d) : Shp (n + 1) (.tuple ds) := by
  refine ⟨?_, ?_⟩
  · rw [PyData.canLay0]; exact canAll fun d m => (h d m).1
  · rw [PyData.depth]
    have := depthAll_le fun d m => (h d m).2
    omega
theorem Shp.str {n : Nat} {s : Str} (h : PyData.strOk s = true) : Shp n (.str s) := ⟨by rw [PyData.canLay0]; exact h, by rw [PyData.depth]; exact Nat.zero_le _⟩
theorem Shp.int {n : Nat} {i : Int} : Shp n (.int i) := ⟨by rw [PyData.canLay0], by rw [PyData.depth]; exact Nat.zero_le _⟩
theorem Shp.game {g : Game} (ha : PyData.strOk g.a = true) (hb : PyData.strOk g.b = true) : Shp 1 (gameD g) := Shp.tuple (n := 0) fun d m => by
  simp only [List.mem_cons, List.not_mem_nil, or_false] at m
  rcases m with rfl | rfl | rfl | rfl | rfl | rfl
  all_goals first | exact Shp.str ha | exact Shp.str hb | exact Shp.int
def rowD (s : Str × StD) : PyData := .tuple [.str s.1, .int s.2.pts, .int s.2.won, .int s.2.tied, .int s.2.lost, frD (rateD s.2)]
theorem Shp.fr (f : Int × Int) : Shp 1 (frD f) := Shp.tuple (n := 0) fun d m => by
  simp only [List.mem_cons, List.not_mem_nil, or_false] at m
  rcases m with rfl | rfl
  all_goals exact Shp.int
theorem Shp.row {s : Str × StD} (h : PyData.strOk s.1 = true) : Shp 2 (rowD s) := Shp.tuple (n := 1) fun d m => by
  simp only [List.mem_cons, List.not_mem_nil, or_false] at m
  rcases m with rfl | rfl | rfl | rfl | rfl | rfl
  all_goals first | exact Shp.str h | exact Shp.int | exact Shp.fr _
theorem okd_row {s : Str × StD} (h : PyData.strOk s.1 = true) : Okd 2 (rowD s) := ⟨by simp, fun d m => by
  simp only [List.mem_cons, List.not_mem_nil, or_false] at m
  rcases m with rfl | rfl | rfl | rfl | rfl | rfl
  all_goals first | exact okd_fr _ | exact h | exact trivial⟩
theorem dq_row {H : Hp} {p q : Addr} {s : Str × StD} (h1 : H p = some (.tup (row5 s ++ [.ref q]))) (h2 : H q = some (.tup (frV (rateD s.2)))) : Dq H (rowD s) (.ref p) := by
  unfold rowD Dq
  refine ⟨p, _, rfl, h1, ?_⟩
  have hf := dq_fr h2
  unfold row5
  unfold DqAll
  refine ⟨_, _, rfl, rfl, ?_⟩
  unfold DqAll
  refine ⟨_, _, rfl, rfl, ?_⟩
  unfold DqAll
  refine ⟨_, _, rfl, rfl, ?_⟩
  unfold DqAll
  refine ⟨_, _, rfl, rfl, ?_⟩
  unfold DqAll
  refine ⟨_, _, rfl, rfl, ?_⟩
  unfold DqAll
  exact ⟨_, _, rfl, hf, rfl⟩
theorem dpAll_rows {K : PySem.W.Frag} {H : Hp} : ∀ {ps : List (Addr × Addr × (Str × StD))}, (∀ p ∈ ps, H p.1 = some (.tup (row5 p.2.2 ++ [.ref p.2.1])) ∧ H p.2.1 = some (.tup (frV (rateD p.2.2.2)))) → DpAll K H (ps.map fun p => .ref p.1) ((ps.map fun p => p.2.2).map rowD)
  | [], _ => .nil
  | p :: ps, h => .cons (Dq.dp (dq_row (h p List.mem_cons_self).1 (h p List.mem_cons_self).2)) (dpAll_rows fun q m => h q (List.mem_cons_of_mem _ m))
theorem dpAll_strs {K : PySem.W.Frag} {H : Hp} : ∀ {xs : List Str}, DpAll K H (xs.map V.str) (xs.map PyData.str)
  | [] => .nil
  | x :: xs => .cons (.str x) dpAll_strs
theorem brk_ok {bs : List Str} (h : BrkOk bs) : ∀ s ∈ bs, PyData.strOk s = true := fun s m => by
  have := h.sub s m
  unfold brkWords at this
  simp only [List.mem_cons, List.not_mem_nil, or_false] at this
  rcases this with rfl | rfl | rfl | rfl <;> decide +kernel
/-! ### whose names -/
theorem upS_sub {f : StD → StD} {k : Str} {l : List (Str × StD)} : ∀ n ∈ (upS f k l).map Prod.fst, n = k ∨ n ∈ l.map Prod.fst := by
  intro n hn
  rw [upS_fst] at hn
  split at hn
  · exact .inr hn
  · rcases List.mem_append.mp hn with h | h
    · exact .inr h
    · exact .inl (List.mem_singleton.mp h)
theorem fold_sub (x y z : Int) : ∀ {gs : List Game} {l : List (Str × StD)}, ∀ n ∈ (gs.foldl (turnS x y z) l).map Prod.fst, (∃ g ∈ gs, n = g.a ∨ n = g.b) ∨ n ∈ l.map Prod.fst
  | [], _, n, h => .inr h
  | g :: gs, l, n, h => by
    rcases fold_sub x y z (gs := gs) n h with ⟨g', m, e⟩ | h
    · exact .inl ⟨g', List.mem_cons_of_mem _ m, e⟩
    · rcases upS_sub n h with e | h
      · exact .inl ⟨g, List.mem_cons_self, .inr e⟩
      · rcases upS_sub n h with e | h
        · exact .inl ⟨g, List.mem_cons_self, .inl e⟩
        · exact .inr h
theorem stands_sub {x y z : Int} {gs : List Game} {names : List Str} (h : ∀ g ∈ gs, GameIn names g) : ∀ n ∈ (stands x y z gs).map Prod.fst, n ∈ names := by
  intro n hn
  rcases fold_sub x y z n hn with ⟨g, m, rfl | rfl⟩ | h
  · exact (h g m).ia
  · exact (h g m).ib
  · cases h
theorem stands_few {x y z : Int} {gs : List Game} {names : List Str} (h : ∀ g ∈ gs, GameIn names g) : (stands x y z gs).length ≤ names.length := by
  have := List.Nodup.length_le_of_subset (stands_nd x y z gs) (stands_sub (x := x) (y := y) (z := z) h)
  rwa [List.length_map] at this
/-! N1: sorted of tuples by their first text, each text once; max and min of three. -/
open PySem PySem.Spec PyProof.Rows L2
def IsF (h : Heap) (v : Value) (z : Str) : Prop := ∃ (a : Addr) (o : Obj) (t : Tok) (r : List Value) (n : Nat), v = .ref a ∧ h.get? a = some o ∧ o.cls = .type "tuple" ∧ o.data = .seq (Value.str z t :: r).toArray n
theorem IsF.keeps {h h' : Heap} {v : Value} {z : Str} (p : IsF h v z) (k : ∀ b o, h.get? b = some o → o.cls = .type "tuple" → h'.get? b = some o) : IsF h' v z := by
  obtain ⟨a, o, t, r, n, e, ho, hc, hd⟩ := p
  exact ⟨a, o, t, r, n, e, k _ _ ho hc, hc, hd⟩
theorem firstF {h : Heap} : ∀ {vs : List Value}, (∀ v ∈ vs, ∃ z, IsF h v z) → ∃ fs : List Value, PySem.W.KatTups h vs fs ∧ fs.length = vs.length ∧ ∀ f ∈ fs, ∃ z t, f = Value.str z t
  | [], _ => ⟨[], PySem.W.KatTups.nil, rfl, fun _ hm => by simp at hm⟩
  | v :: vs, hp => by
    obtain ⟨fs, h1, h2, h3⟩ := firstF (vs := vs) fun v' hm => hp v' (List.mem_cons_of_mem _ hm)
    obtain ⟨z, a, o, t, r, n, e, ho, hc, hd⟩ := hp v List.mem_cons_self
    subst e
    refine ⟨.str z t :: fs, PySem.W.KatTups.cons ho hc hd rfl h1, by rw [List.length_cons, List.length_cons, h2], fun f hm => ?_⟩
    rcases List.mem_cons.mp hm with rfl | hm
    · exact ⟨z, t, rfl⟩
    · exact h3 f hm
def ltF {α : Type} (k : α → Str) (x y : α) : Bool := decide ((k x).cps.toList < (k y).cps.toList)
theorem ltF_swo {α : Type} (k : α → Str) : SrtO.Swo (ltF k) := by
  refine ⟨fun x y h => ?_, fun x y z h1 h2 => ?_⟩
  · have a := of_decide_eq_true h
    exact decide_eq_false (List.not_lt.mpr (List.le_of_lt a))
  · have a := of_decide_eq_false h1
    have b := of_decide_eq_false h2
    exact decide_eq_false (lt_tr a b)
section
variable {prog : Program} {w : World} {A : Around} {s : Shared}
theorem lex_same {b fin : Bool} {Q : Bool → Shared → Prop} : ∀ {xs : List Value} {i : Nat}, Q fin s → PySem.W.KatLex prog w A b fin Q (xs.zip xs) i s
  | [], i, h => PySem.W.kat_nil h
  | x :: xs, i, h => PySem.W.kat_cons (SeqAt.EqAt.same x prog w _ _ (PySem.W.kat_yes (lex_same h)))
theorem f_cmp {vs : List Value} {k : Value → Str} (hp : ∀ v ∈ vs, IsF s.heap v (k v)) (hinj : ∀ v ∈ vs, ∀ u ∈ vs, k v = k u → v = u) : SrtO.Cmp prog w A s (tuples' true) (fun p => p.1 ∈ vs) (SrtO.lt2 (ltF k)) := by
  intro p q hm hm'
  have h1 := hp _ hm
  have h2 := hp _ hm'
  show wpAny (model prog w) A (keyLt' (tuples' true) p.1 q.1) (fun r s' => s' = s ∧ r = ltF k p.1 q.1) (fun _ _ => False) s
  by_cases c : k p.1 = k q.1
  · have e := hinj _ hm _ hm' c
    obtain ⟨a, o, t, r, n, e1, ho, hc, hd⟩ := h1
    rw [← e, e1]
    refine PySem.W.kat_lt ho hd ho hd (lex_same ⟨rfl, ?_⟩)
    rw [decide_eq_false (Nat.lt_irrefl _)]
    exact ((ltF_swo k).refl _).symm
  · obtain ⟨a, o, t, r, n, e, ho, hc, hd⟩ := h1
    obtain ⟨a', o', t', r', n', e', ho', hc', hd'⟩ := h2
    unfold ltF
    generalize k p.1 = x at c hd ⊢
    generalize k q.1 = y at c hd' ⊢
    rw [e, e']
    refine PySem.W.kat_lt ho hd ho' hd' ?_
    refine PySem.W.kat_cons (SeqAt.EqAt.str_str x t y t' prog w _ _ ?_)
    refine PySem.W.kat_go (fun e1 => ?_) (fun e1 => ?_)
    · exact absurd (beq_iff_eq.mp e1) c
    · exact PySem.W.kat_no (oneLt_str ⟨rfl, rfl⟩)
theorem f_sortable {a : Addr} {vs : List Value} {k : Value → Str} (h0 : 0 < vs.length) (hp : ∀ v ∈ vs, IsF s.heap v (k v)) (hinj : ∀ v ∈ vs, ∀ u ∈ vs, k v = k u → v = u) (ha : ∀ o, s.heap.get? a = some o → o.cls ≠ .type "tuple") : SrtO.SortableO prog w A s a vs (ltF k) := by
  intro h' keep
  have hp' : ∀ v ∈ vs, IsF h' v (k v) := fun v hm => (hp v hm).keeps fun b o e c => keep b o (fun z => by subst z; exact ha o e c) e
  obtain ⟨fs, h1, h2, h3⟩ := firstF fun v hm => ⟨_, hp' v hm⟩
  refine ⟨tuples' true, fun Q E hq => ?_, f_cmp hp' hinj⟩
  refine PySem.W.kat_kind (T := .type "str") h1 (by omega) (fun f hm => ?_) (by rfl) ?_
  · obtain ⟨x, t, rfl⟩ := h3 f hm
    exact PySem.W.Looks.now
  · have e : (Value.type "str" != Value.type "tuple") = true := by first | decide +kernel | rfl | decide
    rw [e]
    exact hq
theorem sorted_f {E : Value → Shared → Prop} {l : Addr} {vs : List Value} {k : Value → Str} {Q : Value → Shared → Prop} (hl : s.heap.IsList l vs.toArray) (hz : vs.length ≤ sizeLine) (hp : ∀ v ∈ vs, IsF s.heap v (k v)) (hinj : ∀ v ∈ vs, ∀ u ∈ vs, k v = k u → v = u)
    (h : ∀ (h' : Heap) (d : Addr) (out : List Value), SrtO.Srtd (ltF k) out → out.Perm vs → (∀ b o, s.heap.get? b = some o → h'.get? b = some o) → s.heap.objs.size ≤ d → (∃ n, h'.get? d = some (seqObj "list" out.toArray n)) → Q (.ref d) { s with heap := h' }) :
    wpAny (model prog w) A (call (.builtin "sorted") [.ref l]) Q E s := by
  refine SrtO.sorted_ord (ltF_swo k) hl hz (fun h2 h₁ a ha kk => ?_) fun out hs hb => ?_
  · refine f_sortable (s := { s with heap := h₁ }) (by omega) (fun v hm => (hp v hm).keeps fun b o e _ => (kk b o e).2) hinj fun o e => ?_
    have e' : some o = some (seqObj "list" vs.toArray 0) := e.symm.trans ha
    cases e'
    intro c
    exact absurd (Value.type.inj c) (by decide)
  · exact h _ _ out hs hb.perm (fun b o e => sortedAll_old e) (Nat.le_succ _) (sortedAll_at s.heap vs out.toArray)
end
/-- sorted(xs), xs a list of tuples, each with a text ahead, none twice -/
def rSortF (K : PySem.W.Frag) : VR := fun vs H Q => ∃ (a : Addr) (xs : List V) (k : V → Str), vs = [V.ref a] ∧ SqL K H a xs ∧ (∀ x ∈ xs, ∃ t r, x = V.ref t ∧ H t = some (.tup (.str (k x) :: r))) ∧ (∀ x ∈ xs, ∀ y ∈ xs, k x = k y → x = y) ∧
  ∀ ys p, SrtO.Srtd (ltF k) ys → ys.Perm xs → H p = none → Q (.ref p) (upd H p (.lst ys))
theorem cr_sortF {X : Cx} : CallR X (.builtin "sorted") (rSortF X.K) := by
  intro pins s σ H vs us Q I r h
  obtain ⟨a, xs, k, rfl, hs, hx, hinj, q⟩ := h
  obtain ⟨its, rv, hl, hz⟩ := I.list hs
  obtain ⟨u, rfl, ru⟩ := vals1 r
  obtain rfl : u = Value.ref a := ru
  obtain ⟨e1, e2⟩ := refs_back rv fun x m => by
    obtain ⟨t, _, e, _⟩ := hx x m
    exact ⟨t, e⟩
  refine sorted_f (k := fun u => k (backV u)) hl.isList (by rw [← rv.length]; exact hz) (fun v hv => ?_) (fun v hv u hu e => ?_) fun h' d out h1 h2 kp hd hn => ?_
  · obtain ⟨t, rfl⟩ := e2 v hv
    have hm : V.ref t ∈ xs := by rw [e1]; exact List.mem_map.mpr ⟨_, hv, rfl⟩
    obtain ⟨t', r', e, ht⟩ := hx _ hm
    cases e
    obtain ⟨_, its2, r2, o, ho, hc, n, hd⟩ := I.hok _ _ ht
    cases r2 with
    | cons ri rj =>
      obtain ⟨t1, rfl⟩ := ri
      exact ⟨t, o, t1, _, n, rfl, ho, hc, hd⟩
  · obtain ⟨t, rfl⟩ := e2 v hv
    obtain ⟨t', rfl⟩ := e2 u hu
    have h1 : V.ref t ∈ xs := by rw [e1]; exact List.mem_map.mpr ⟨_, hv, rfl⟩
    have h2 : V.ref t' ∈ xs := by rw [e1]; exact List.mem_map.mpr ⟨_, hu, rfl⟩
    have := hinj _ h1 _ h2 e
    injection this with this
    rw [this]
  · have h3 : ∀ u ∈ out, ∃ a, u = Value.ref a := fun u hu => e2 u (h2.mem_iff.mp hu)
    obtain ⟨n, hn⟩ := hn
    have hb : (out.map backV).Perm xs := by
      rw [e1]
      exact h2.map _
    refine ⟨.ref d, upd H d (.lst (out.map backV)), I.laid (t' := s.toks) kp hd ⟨?_, out, n, vals_back h3, hn⟩, rfl, q _ d (SrtO.srtd_map h1) hb (I.hok.fresh hd)⟩
    rw [hb.length_eq]
    exact hz
section
variable {K : PySem.W.Frag} {H : Hp} {Q : VK}
theorem x_sortF {a : Addr} {xs : List V} (k : V → Str) (s : SqL K H a xs) (hx : ∀ x ∈ xs, ∃ t r, x = V.ref t ∧ H t = some (.tup (.str (k x) :: r))) (hi : ∀ x ∈ xs, ∀ y ∈ xs, k x = k y → x = y)
    (h : ∀ p ys H', ys.Pairwise (fun x y => ¬ (k y).cps.toList < (k x).cps.toList) → ys.Perm xs → H p = none → Same H H' → H' p = some (.lst ys) → Q (.ref p) H') : rSortF K [.ref a] H Q :=
  ⟨a, xs, k, rfl, s, hx, hi, fun ys p h1 h2 n => h p ys _ (h1.imp fun z => of_decide_eq_false z) h2 n (Same.new n) upd_same⟩
theorem x_max3 {a b c : Int} (h : Q (.int (max (max a b) c)) H) : rNuC3 nuMax3 [.int a, .int b, .int c] H Q := by
  refine ⟨.int a, .int b, .int c, .int (max (max a b) c), rfl, ?_, h⟩
  have m2 : ∀ a b : Int, nuMax2 (.int a) (.int b) = some (.int (max a b)) := fun a b => by
    show some (if decide (a < b) = true then V.int b else V.int a) = _
    by_cases c : a < b
    · rw [if_pos (decide_eq_true c), Int.max_eq_right (by omega)]
    · rw [if_neg (by simpa using c), Int.max_eq_left (by omega)]
  show (nuMax2 (.int a) (.int b)).bind _ = _
  rw [m2]
  exact m2 _ _
theorem x_min3 {a b c : Int} (h : Q (.int (min (min a b) c)) H) : rNuC3 nuMin3 [.int a, .int b, .int c] H Q := by
  refine ⟨.int a, .int b, .int c, .int (min (min a b) c), rfl, ?_, h⟩
  have m2 : ∀ a b : Int, nuMin2 (.int a) (.int b) = some (.int (min a b)) := fun a b => by
    show some (if decide (b < a) = true then V.int b else V.int a) = _
    by_cases c : b < a
    · rw [if_pos (decide_eq_true c), Int.min_eq_right (by omega)]
    · rw [if_neg (by simpa using c), Int.min_eq_left (by omega)]
  show (nuMin2 (.int a) (.int b)).bind _ = _
  rw [m2]
  exact m2 _ _
end
/-! N2: games turned, points due. -/
open PySem PySem.Spec PyProof.Rows L2
open Evl (tCut)
section
variable {K : PySem.W.Frag} {σ : L2.St} {H : Hp} {Q : VK} {g : TG} {te : TE} {tt : TT}
def kLcV (K : PySem.W.Frag) (g : TG) (tt : TT) (te : TE) (vs : List Nat) (σ : L2.St) (Q : VK) (ws : List V) (H1 : Hp) : Prop := ∃ (a : Addr) (xs : List V), ws = [.ref a] ∧ SqL K H1 a xs ∧ ∀ D, H1 D = none → ∃ W : Nat → Nat → Hp → Prop, (∃ m, W 0 m (upd H1 D (.lst []))) ∧ ∀ i m H, W i m H →
  ((Itv K a xs.length).stop i H ∧ Q (.ref D) H) ∨ ((Itv K a xs.length).go i H ∧ ∃ Nx : Hp → Prop, (∀ H', Nx H' → ∃ m', m' < m ∧ W (i + 1) m' H') ∧ ∀ x H', (Itv K a xs.length).yld i H x H' → g x (wipe σ vs) H' fun σ2 H2 => wipe σ2 vs = wipe σ vs ∧ tt σ2 H2 fun b H3 =>
    if b = true then te σ2 H3 fun y H4 => ∃ acc, H4 D = some (.lst acc) ∧ acc.length < sizeLine ∧ Nx (upd H4 D (.lst (acc ++ [y]))) else Nx H3)
theorem x_lcV {ta : TA} {vs : List Nat} (h : ta σ H fun ws H1 => kLcV K g tt te vs σ Q ws H1) : tLc (iRev K ta) g tt te vs σ H Q := h
theorem x_kLcV {vs : List Nat} {a : Addr} {xs : List V} (hx : SqL K H a xs) (Pv : Addr → Nat → Hp → Prop) (h0 : ∀ D H1, H D = none → Same H H1 → H1 D = some (.lst []) → Pv D 0 H1) (hl : ∀ D i H, i ≤ xs.length → Pv D i H → SqL K H a xs)
    (hs : ∀ D i x H, xs[xs.length - 1 - i]? = some x → i < xs.length → Pv D i H → g x (wipe σ vs) H fun σ2 H2 => wipe σ2 vs = wipe σ vs ∧ tt σ2 H2 fun b H3 => if b = true then te σ2 H3 fun y H4 => kAcc D (Pv D (i + 1)) y H4 else Pv D (i + 1) H3)
    (hd : ∀ D H, Pv D xs.length H → Q (.ref D) H) : kLcV K g tt te vs σ Q [.ref a] H :=
  ⟨a, xs, rfl, hx, fun D hD => lc_it walk_rev (Pv D) (h0 D _ hD (Same.new hD) upd_same) (fun i H hi p => hl D i H hi p) (fun i x H H' hi p y => by obtain ⟨rfl, e⟩ := y; exact hs D i x _ e hi p) (fun H p => hd D H p)⟩
end
def swapG (g : Game) : Game := ⟨g.b, g.s, g.m, g.a, g.r, g.n⟩
def turned (gs : List Game) : List Game := gs.reverse.map swapG
def spTurned (K : PySem.W.Frag) : Sp := fun vs H Q _ => ∃ (l : Addr) (gs : List Game), vs = [.ref l] ∧ GsAt K H l gs ∧ gs.length ≤ 1000 ∧ ∀ l' us' H', H l' = none → Same H H' → H' l' = some (.lst us') → GsRel K H' us' (turned gs) → Q (.ref l') H'
theorem turned_at {gs : List Game} {i : Nat} (h : i < gs.length) : (turned gs)[i]? = some (swapG gs[gs.length - 1 - i]) := by
  unfold turned
  rw [List.getElem?_map, List.getElem?_reverse h, List.getElem?_eq_getElem (by omega)]
  rfl
def N__law_turned : List Str := ["_law_games_here", "_law_one", "_law_r", "_law_n", "_law_other", "_law_s", "_law_m"]
def t__law_turned (K : PySem.W.Frag) : TS := (tRet (tLc (iRev K (tCons (tVar 0) tNil)) (gTup K 6 (gCons (gName 1) (gCons (gName 2) (gCons (gName 3) (gCons (gName 4) (gCons (gName 5) (gCons (gName 6) gNil))))))) tYes (tTup (tCons (tVar 4) (tCons (tVar 5) (tCons (tVar 6) (tCons (tVar 1) (tCons (tVar 2) (tCons (tVar 3) tNil))))))) [1, 2, 3, 4, 5, 6]))
theorem rd_turned (K : PySem.W.Frag) : Reads N__law_turned (spTurned K) (t__law_turned K) := by
  rintro vs H Q E ⟨l, gs, rfl, ⟨us, hl, hg⟩, hn, k⟩
  show t__law_turned K _ [some (.ref l), none, none, none, none, none, none] H
  unfold t__law_turned
  walk_at "st"
  refine x_lcV ?_
  walk_at "st"
  have hul := hg.1
  refine x_kLcV hl (fun D i H1 => Same H H1 ∧ H D = none ∧ ∃ ws, H1 D = some (.lst ws) ∧ GsRel K H1 ws ((turned gs).take i)) (fun D H1 nD s1 e1 => ⟨s1, nD, [], e1, GsRel.nil⟩) ?_ ?_ ?_
  · rintro D i H1 _ ⟨s1, _⟩
    exact Same.seq s1 hl
  · rintro D i v H1 hv hi ⟨s1, nD, ws, e1, hr⟩
    rw [hul] at hv hi
    have hj : gs.length - 1 - i < gs.length := by omega
    obtain ⟨q, hq, ht⟩ := hg.2 _ _ (List.getElem?_eq_getElem hj)
    obtain rfl : v = .ref q := Option.some.inj (hv.symm.trans hq)
    rw [show wipe [some (V.ref l), none, none, none, none, none, none] [1, 2, 3, 4, 5, 6] = [some (V.ref l), none, none, none, none, none, none] from rfl]
    refine x_gtup (Same.sqT s1 ht) rfl ?_
    unfold gameV
    walk_at "st"
    refine ⟨rfl, ?_⟩
    unfold tYes
    refine iteT ?_
    walk_at "st"
    refine x_kTup (by walk_at "len") fun t H2 n2 s2 e2 => ?_
    have hwl : ws.length ≤ 1000 := by have := hr.1; rw [List.length_take] at this; omega
    refine x_kAcc (s2 _ _ e1) (by omega) fun H3 b3 e3 => ?_
    have ht2 : (turned gs).take (i + 1) = (turned gs).take i ++ [swapG gs[gs.length - 1 - i]] := by rw [List.take_add_one, turned_at hi]; rfl
    refine ⟨Same.but (s1.trans s2) nD b3, nD, _, e3, ?_⟩
    rw [ht2]
    have hsn : GsRel K H2 (ws ++ [.ref t]) ((turned gs).take i ++ [swapG gs[gs.length - 1 - i]]) := (hr.same s2).snoc (SqT.of e2)
    exact hsn.but b3 (s2 _ _ e1)
  · rintro D H1 ⟨s1, nD, ws, e1, hr⟩
    rw [List.take_of_length_le (by rw [hul]; simp [turned])] at hr
    exact k D ws H1 nD s1 e1 hr
/-! ### points due -/
def dueP (x y z : Int) : List Game → Int
  | [] => 0
  | g :: gs => (if g.r = g.s then 2 * y else x + z) + dueP x y z gs
theorem dueP_snoc (x y z : Int) (g : Game) : ∀ gs : List Game, dueP x y z (gs ++ [g]) = dueP x y z gs + (if g.r = g.s then 2 * y else x + z)
  | [] => by simp [dueP]
  | h :: gs => by
    show _ + dueP x y z (gs ++ [g]) = _ + dueP x y z gs + _
    rw [dueP_snoc x y z g gs, Int.add_assoc]
def spDuePts (K : PySem.W.Frag) : Sp := fun vs H Q _ => ∃ (p l : Addr) (x y z : Int) (gs : List Game), vs = [.ref p, .ref l] ∧ SqT K H p [.int x, .int y, .int z] ∧ GsAt K H l gs ∧ Q (.int (dueP x y z gs)) H
def N__law_due_points : List Str := ["_law_points", "_law_games_here", "_law_total", "_law_one", "_law_r", "_law_n", "_law_other", "_law_s", "_law_m"]
def t__law_due_points (K : PySem.W.Frag) : TS := (tSeq (tAsg (tC (.int 0)) (gName 2))
  (tSeq (tFor (iList K (tVar 1)) (gTup K 6 (gCons (gName 3) (gCons (gName 4) (gCons (gName 5) (gCons (gName 6) (gCons (gName 7) (gCons (gName 8) gNil)))))))
  (tAsg (tOp nAdd (tVar 2) (tIf (tTest (tOp rEq (tVar 4) (tVar 7))) (tOp nMul (tC (.int 2)) (tOp (rIxT K) (tVar 0) (tC (.int 1)))) (tOp nAdd (tOp (rIxT K) (tVar 0) (tC (.int 0))) (tOp (rIxT K) (tVar 0) (tC (.int 2)))))) (gName 2)))
  (tRet (tVar 2))))
theorem rd_duePts (K : PySem.W.Frag) : Reads N__law_due_points (spDuePts K) (t__law_due_points K) := by
  rintro vs H Q E ⟨p, l, x, y, z, gs, rfl, hp, ⟨us, hl, hg⟩, k⟩
  show t__law_due_points K _ [some (.ref p), some (.ref l), none, none, none, none, none, none, none] H
  unfold t__law_due_points
  walk_at "st"
  have hul := hg.1
  refine x_kForL hl (fun i σ H1 => H1 = H ∧ ∃ (a b c d e f : Option V), σ = [some (.ref p), some (.ref l), some (.int (dueP x y z (gs.take i))), a, b, c, d, e, f]) ⟨rfl, _, _, _, _, _, _, rfl⟩ ?_ ?_ ?_
  · rintro i σ H1 _ ⟨rfl, _⟩
    exact hl
  · rintro i v σ H1 hv ⟨rfl, a, b, c, d, e, f, rfl⟩
    have hlt : i < gs.length := by rw [← hul]; exact (List.getElem?_eq_some_iff.mp hv).1
    obtain ⟨q, hq, ht⟩ := hg.2 i gs[i] (List.getElem?_eq_getElem hlt)
    obtain rfl : v = .ref q := Option.some.inj (hv.symm.trans hq)
    have ht2 : gs.take (i + 1) = gs.take i ++ [gs[i]] := by rw [List.take_add_one, List.getElem?_eq_getElem hlt]; rfl
    refine x_gtup ht rfl ?_
    unfold gameV
    walk_at "st"
    refine x_dec (fun c => ?_) (fun c => ?_)
    · walk_at "st"
      refine ⟨rfl, ?_⟩
      rw [ht2, dueP_snoc, if_pos c]
      exact ⟨_, _, _, _, _, _, rfl⟩
    · walk_at "st"
      refine ⟨rfl, ?_⟩
      rw [ht2, dueP_snoc, if_neg c]
      exact ⟨_, _, _, _, _, _, rfl⟩
  · rintro σ H1 ⟨rfl, a, b, c, d, e, f, rfl⟩
    walk_at "st"
    rw [hul, List.take_length]
    exact k
/-! N3: rates within what was scored. -/
open PySem PySem.Spec PyProof.Rows L2
open Evl (tCut)
local macro_rules | `(tactic| walk_at "one") => `(tactic| first | (with_reducible refine x_kPar rfl ?_; dsimp only [List.set]) | with_reducible refine iteT2 ?_ | with_reducible refine iteF2 ?_)
def hlStep (nm : Str) (h : Int × Int) (g : Game) : Int × Int := if nm = g.a ∨ nm = g.b then (max (max h.1 g.r) g.s, min (min h.2 (0 - g.r)) (0 - g.s)) else h
def hlF (nm : Str) (gs : List Game) : Int × Int := gs.foldl (hlStep nm) (0, 0)
theorem hl_step_le (nm : Str) (h : Int × Int) (g : Game) : h.1 ≤ (hlStep nm h g).1 ∧ (hlStep nm h g).2 ≤ h.2 := by
  unfold hlStep
  split
  · constructor <;> dsimp only <;> omega
  · exact ⟨Int.le_refl _, Int.le_refl _⟩
theorem hl_fold_le (nm : Str) : ∀ {gs : List Game} {h : Int × Int}, h.1 ≤ (gs.foldl (hlStep nm) h).1 ∧ (gs.foldl (hlStep nm) h).2 ≤ h.2
  | [], h => ⟨Int.le_refl _, Int.le_refl _⟩
  | g :: gs, h => by
    have h1 := hl_step_le nm h g
    have h2 := hl_fold_le nm (gs := gs) (h := hlStep nm h g)
    exact ⟨Int.le_trans h1.1 h2.1, Int.le_trans h2.2 h1.2⟩
theorem hl_all {nm : Str} : ∀ {gs : List Game} {h : Int × Int}, ∀ g ∈ gs, (nm = g.a ∨ nm = g.b) → g.r ≤ (gs.foldl (hlStep nm) h).1 ∧ g.s ≤ (gs.foldl (hlStep nm) h).1 ∧ (gs.foldl (hlStep nm) h).2 ≤ 0 - g.r ∧ (gs.foldl (hlStep nm) h).2 ≤ 0 - g.s
  | [], h, g, m, _ => by cases m
  | g' :: gs, h, g, m, c => by
    rcases List.mem_cons.mp m with e | m
    · rw [← e]
      have h2 := hl_fold_le nm (gs := gs) (h := hlStep nm h g)
      have h3 : hlStep nm h g = (max (max h.1 g.r) g.s, min (min h.2 (0 - g.r)) (0 - g.s)) := if_pos c
      rw [h3] at h2
      show g.r ≤ (gs.foldl (hlStep nm) (hlStep nm h g)).1 ∧ g.s ≤ (gs.foldl (hlStep nm) (hlStep nm h g)).1 ∧ (gs.foldl (hlStep nm) (hlStep nm h g)).2 ≤ 0 - g.r ∧ (gs.foldl (hlStep nm) (hlStep nm h g)).2 ≤ 0 - g.s
      rw [h3]
      dsimp only at h2
      omega
    · exact hl_all (gs := gs) g m c
/-! ### what a team has is within it -/
def Wi (hi lo : Int) (s : StD) : Prop := s.rm ≤ hi * s.bm ∧ lo * s.bo ≤ -s.ro
theorem wi_took {hi lo : Int} {s : StD} {x y z r0 r1 b0 b1 : Int} (h : Wi hi lo s) (h0 : 0 ≤ hi) (l0 : lo ≤ 0) (a0 : r0 ≤ hi) (a1 : lo ≤ 0 - r1) (c0 : 1 ≤ b0) (c1 : 1 ≤ b1) : Wi hi lo (took s x y z r0 r1 b0 b1) := by
  unfold Wi at h ⊢
  rw [took_rm, took_ro, took_bm, took_bo, Int.mul_add, Int.mul_add]
  have h1 : hi * 1 ≤ hi * b0 := Int.mul_le_mul_of_nonneg_left c0 h0
  have h2 : lo * b1 ≤ lo * 1 := Int.mul_le_mul_of_nonpos_left l0 c1
  rw [Int.mul_one] at h1 h2
  omega
theorem wi_st0 (hi lo : Int) : Wi hi lo st0 := by
  unfold Wi st0
  simp
theorem upS_key {f : StD → StD} {k nm : Str} {P : StD → Prop} (p0 : P st0) (hf : k = nm → ∀ s, P s → P (f s)) : ∀ {l : List (Str × StD)}, (∀ q ∈ l, q.1 = nm → P q.2) → ∀ q ∈ upS f k l, q.1 = nm → P q.2
  | [], _, q, hq, e => by
    have e1 : q = (k, f st0) := by simpa [upS] using hq
    rw [e1] at e ⊢
    exact hf e _ p0
  | (j, s) :: r, h, q, hq, e => by
    unfold upS at hq
    split at hq
    · next c =>
      rcases List.mem_cons.mp hq with e1 | m
      · rw [e1] at e ⊢
        exact hf (c.symm.trans e) s (h (j, s) List.mem_cons_self e)
      · exact h q (List.mem_cons_of_mem _ m) e
    · rcases List.mem_cons.mp hq with e1 | m
      · rw [e1] at e ⊢
        exact h (j, s) List.mem_cons_self e
      · exact upS_key p0 hf (fun q m => h q (List.mem_cons_of_mem _ m)) q m e
theorem fold_wi {hi lo x y z : Int} {nm : Str} (h0 : 0 ≤ hi) (l0 : lo ≤ 0) : ∀ {gs : List Game} {l : List (Str × StD)}, (∀ g ∈ gs, GameOk g) → (∀ g ∈ gs, (nm = g.a ∨ nm = g.b) → g.r ≤ hi ∧ g.s ≤ hi ∧ lo ≤ 0 - g.r ∧ lo ≤ 0 - g.s) → (∀ q ∈ l, q.1 = nm → Wi hi lo q.2) →
    ∀ q ∈ gs.foldl (turnS x y z) l, q.1 = nm → Wi hi lo q.2
  | [], l, _, _, h => h
  | g :: gs, l, ok, hg, h => by
    refine fold_wi h0 l0 (gs := gs) (fun g m => ok g (List.mem_cons_of_mem _ m)) (fun g m => hg g (List.mem_cons_of_mem _ m)) ?_
    have o := ok g List.mem_cons_self
    refine upS_key (wi_st0 hi lo) (fun e s hs => ?_) (upS_key (wi_st0 hi lo) (fun e s hs => ?_) h)
    · have b := hg g List.mem_cons_self (.inr e.symm)
      exact wi_took hs h0 l0 b.2.1 b.2.2.1 o.m.1 o.n.1
    · have b := hg g List.mem_cons_self (.inl e.symm)
      exact wi_took hs h0 l0 b.1 b.2.2.2 o.n.1 o.m.1
theorem wi_rate {hi lo : Int} {s : StD} (ok : StOk s) (h : Wi hi lo s) : 0 < (rateD s).2 ∧ lo * (rateD s).2 ≤ (rateD s).1 ∧ (rateD s).1 ≤ hi * (rateD s).2 := by
  have c1 := ok.rm
  have c2 := ok.ro
  have c3 := ok.bm
  have c4 := ok.bo
  have h0 : 0 < s.bm * s.bo := Int.mul_pos c3.1 c4.1
  have hp : s.bm * s.bo = ((s.bm * s.bo).toNat : Int) := (Int.toNat_of_nonneg (Int.le_of_lt h0)).symm
  have hpos : 0 < (s.bm * s.bo).toNat := by omega
  unfold Wi at h
  have k1 : s.rm * s.bo ≤ hi * s.bm * s.bo := Int.mul_le_mul_of_nonneg_right h.1 (Int.le_of_lt c4.1)
  have k2 : lo * s.bo * s.bm ≤ -s.ro * s.bm := Int.mul_le_mul_of_nonneg_right h.2 (Int.le_of_lt c3.1)
  have k3 : 0 ≤ s.rm * s.bo := Int.mul_nonneg c1.1 (Int.le_of_lt c4.1)
  have k4 : 0 ≤ s.ro * s.bm := Int.mul_nonneg c2.1 (Int.le_of_lt c3.1)
  have up : s.rm * s.bo - s.ro * s.bm ≤ hi * (s.bm * s.bo) := by
    rw [← Int.mul_assoc]; omega
  have dn : lo * (s.bm * s.bo) ≤ s.rm * s.bo - s.ro * s.bm := by
    rw [Int.mul_comm s.bm s.bo, ← Int.mul_assoc]
    rw [Int.neg_mul] at k2
    omega
  unfold rateD lowest
  generalize s.rm * s.bo - s.ro * s.bm = n at up dn ⊢
  rw [hp] at up dn
  generalize (s.bm * s.bo).toNat = p at up dn hpos ⊢
  have h1 : ((Nat.gcd n.natAbs p : Nat) : Int) ∣ n := Int.dvd_natAbs.mp (Int.natCast_dvd_natCast.mpr (Nat.gcd_dvd_left _ _))
  have h2 : ((Nat.gcd n.natAbs p : Nat) : Int) ∣ (p : Int) := Int.natCast_dvd_natCast.mpr (Nat.gcd_dvd_right _ _)
  have hg : 0 < ((Nat.gcd n.natAbs p : Nat) : Int) := by
    have := Nat.gcd_pos_of_pos_right n.natAbs hpos
    omega
  obtain ⟨a, ea⟩ := h1
  obtain ⟨b, eb⟩ := h2
  generalize ((Nat.gcd n.natAbs p : Nat) : Int) = G at ea eb hg ⊢
  show 0 < (p : Int) / G ∧ lo * ((p : Int) / G) ≤ n / G ∧ n / G ≤ hi * ((p : Int) / G)
  have hG : G ≠ 0 := by omega
  rw [ea, eb, Int.mul_ediv_cancel_left _ hG, Int.mul_ediv_cancel_left _ hG]
  rw [ea, eb] at up dn
  have u1 : G * a ≤ G * (hi * b) := by rw [← Int.mul_assoc, Int.mul_comm G hi, Int.mul_assoc]; exact up
  have d1 : G * (lo * b) ≤ G * a := by rw [← Int.mul_assoc, Int.mul_comm G lo, Int.mul_assoc]; exact dn
  refine ⟨?_, Int.le_of_mul_le_mul_left d1 hg, Int.le_of_mul_le_mul_left u1 hg⟩
  have : 0 < G * b := by rw [← eb]; omega
  exact Int.pos_of_mul_pos_right this hg
def spWithin (K : PySem.W.Frag) : Sp := fun vs H Q _ => ∃ (l : Addr) (gs : List Game) (nm : Str) (s : StD), vs = [.ref l, .str nm] ∧ GsAt K H l gs ∧ gs.length ≤ 1000 ∧ (∀ g ∈ gs, GameOk g) ∧ (stands 0 0 0 gs).lookup nm = some s ∧ ∀ H', Same H H' → Q (.bl true) H'
theorem x_in2 {K : PySem.W.Frag} {H : Hp} {Q : VK} {q : Addr} {nm a b : Str} (s : SqT K H q [.str a, .str b]) (h : Q (.bl (decide (nm = a ∨ nm = b))) H) : rIn K false (.str nm) (.ref q) H Q := by
  refine ⟨q, _, rfl, .inr s, rfl, rfl, ?_⟩
  have e : inV (.str nm) [.str a, .str b] = decide (nm = a ∨ nm = b) := by
    unfold inV
    rw [Bool.eq_iff_iff]
    simp [eqV]
    exact ⟨fun h => h.imp Eq.symm Eq.symm, fun h => h.imp Eq.symm Eq.symm⟩
  show Q (.bl (inV (.str nm) [.str a, .str b])) H
  rw [e]
  exact h
def N__law_within : List Str := ["_law_games_here", "_law_name", "_law_number", "_law_parts", "_law_high", "_law_low", "_law_one", "_law_r", "_law_n", "_law_other", "_law_s", "_law_m"]
def t__law_within (K : PySem.W.Frag) : TS := (tSeq (tAsg (tCall (spRateOf K) [] E0 (tCons (tVar 0) (tCons (tVar 1) tNil))) (gTup K 2 (gCons (gName 2) (gCons (gName 3) gNil))))
  (tSeq (tAsg (tC (.int 0)) (gName 4))
  (tSeq (tAsg (tC (.int 0)) (gName 5))
  (tSeq (tFor (iList K (tVar 0)) (gTup K 6 (gCons (gName 6) (gCons (gName 7) (gCons (gName 8) (gCons (gName 9) (gCons (gName 10) (gCons (gName 11) gNil)))))))
  (tIfS (tTest (tOp (rIn K false) (tVar 1) (tTup (tCons (tVar 6) (tCons (tVar 9) tNil)))))
  (tSeq (tAsg (tCB (rNuC3 nuMax3) (tCons (tVar 4) (tCons (tVar 7) (tCons (tVar 10) tNil)))) (gName 4))
  (tAsg (tCB (rNuC3 nuMin3) (tCons (tVar 5) (tCons (tOp nSub (tC (.int 0)) (tVar 7)) (tCons (tOp nSub (tC (.int 0)) (tVar 10)) tNil)))) (gName 5)))
  tNext))
  (tRet (tAndV (tOp nGt (tVar 3) (tC (.int 0))) (tChain nLe nLe (tOp nMul (tVar 5) (tVar 3)) (tVar 2) (tOp nMul (tVar 4) (tVar 3)))))))))
theorem rd_within (K : PySem.W.Frag) : Reads N__law_within (spWithin K) (t__law_within K) := by
  rintro vs H Q E ⟨l, gs, nm, s, rfl, ⟨us, hl, hg⟩, hn, ok, hlk, k⟩
  show t__law_within K _ [some (.ref l), some (.str nm), none, none, none, none, none, none, none, none, none, none] H
  unfold t__law_within
  walk_at "st"
  refine ⟨l, gs, nm, s, rfl, ⟨us, hl, hg⟩, hn, ok, hlk, fun q H1 s1 e1 => ?_⟩
  refine x_gtup (SqT.of e1) rfl ?_
  unfold frV
  walk_at "st"
  refine x_kForL (Same.seq s1 hl) (fun i σ H2 => Same H1 H2 ∧ ∃ (a b c d e f : Option V), σ = [some (.ref l), some (.str nm), some (.int (rateD s).1), some (.int (rateD s).2), some (.int (hlF nm (gs.take i)).1), some (.int (hlF nm (gs.take i)).2), a, b, c, d, e, f])
    ⟨Same.refl _, _, _, _, _, _, _, rfl⟩ ?_ ?_ ?_
  · rintro i σ H2 _ ⟨s2, _⟩
    exact Same.seq (s1.trans s2) hl
  · rintro i v σ H2 hv ⟨s2, a, b, c, d, e, f, rfl⟩
    have hlt : i < gs.length := by rw [← hg.1]; exact (List.getElem?_eq_some_iff.mp hv).1
    obtain ⟨q', hq, ht⟩ := hg.2 i gs[i] (List.getElem?_eq_getElem hlt)
    obtain rfl : v = .ref q' := Option.some.inj (hv.symm.trans hq)
    have ht2 : hlF nm (gs.take (i + 1)) = hlStep nm (hlF nm (gs.take i)) gs[i] := by
      unfold hlF
      rw [List.take_add_one, List.getElem?_eq_getElem hlt, List.foldl_append]
      rfl
    refine x_gtup (Same.sqT (s1.trans s2) ht) rfl ?_
    unfold gameV
    walk_at "st"
    refine x_kTup (by walk_at "len") fun q3 H3 n3 s3 e3 => ?_
    refine x_in2 (SqT.of e3) ?_
    walk_at "st"
    refine x_dec (fun c => ?_) (fun c => ?_)
    · walk_at "st"
      refine x_max3 ?_
      walk_at "st"
      refine x_min3 ?_
      walk_at "st"
      refine ⟨s2.trans s3, ?_⟩
      rw [ht2, hlStep, if_pos c]
      exact ⟨_, _, _, _, _, _, rfl⟩
    · walk_at "st"
      refine ⟨s2.trans s3, ?_⟩
      rw [ht2, hlStep, if_neg c]
      exact ⟨_, _, _, _, _, _, rfl⟩
  · rintro σ H2 ⟨s2, a, b, c, d, e, f, rfl⟩
    rw [hg.1, List.take_length]
    have h1 := hl_fold_le nm (gs := gs) (h := (0, 0))
    have hw := fold_wi (x := 0) (y := 0) (z := 0) (nm := nm) (l := []) h1.1 h1.2 ok (fun g m c => hl_all g m c) (by simp) (nm, s) (lookup_mem' hlk) rfl
    have hok : StOk s := stands_all ok hn (nm, s) (lookup_mem' hlk)
    obtain ⟨w1, w2, w3⟩ := wi_rate hok hw
    have w4 := rate_part hok
    walk_at "st"
    refine x_yes w1 ?_
    walk_at "st"
    refine x_yes w2 ?_
    walk_at "st"
    have := k H2 (s1.trans s2)
    rw [show decide ((rateD s).1 ≤ (hlF nm gs).1 * (rateD s).2) = true from decide_eq_true w3]
    exact this
/-! N4: sums of the table; games turned leave what each has. -/
open PySem PySem.Spec PyProof.Rows L2
/-! ### sums -/
def sumF (φ : StD → Int) (l : List (Str × StD)) : Int := (l.map fun p => φ p.2).sum
theorem sumF_cons (φ : StD → Int) (p : Str × StD) (l : List (Str × StD)) : sumF φ (p :: l) = φ p.2 + sumF φ l := rfl
theorem sumF_perm {φ : StD → Int} {l l' : List (Str × StD)} (h : l.Perm l') : sumF φ l = sumF φ l' := by
  induction h with
  | nil => rfl
  | cons x _ ih => rw [sumF_cons, sumF_cons, ih]
  | swap x y l => rw [sumF_cons, sumF_cons, sumF_cons, sumF_cons]; omega
  | trans _ _ ih1 ih2 => rw [ih1, ih2]
theorem sumF_upS {φ : StD → Int} {f : StD → StD} {δ : Int} (h0 : φ st0 = 0) (hf : ∀ s, φ (f s) = φ s + δ) (k : Str) : ∀ l : List (Str × StD), sumF φ (upS f k l) = sumF φ l + δ
  | [] => by
    show φ (f st0) + 0 = 0 + δ
    rw [hf, h0]; omega
  | (j, s) :: r => by
    unfold upS
    split
    · rw [sumF_cons, sumF_cons, hf]; show φ s + δ + _ = φ s + _ + δ; omega
    · rw [sumF_cons, sumF_cons, sumF_upS h0 hf k r]; show φ s + (_ + δ) = φ s + _ + δ; omega
def sumG (δ : Game → Int) : List Game → Int
  | [] => 0
  | g :: gs => δ g + sumG δ gs
theorem sumF_fold {φ : StD → Int} {d : Int → Int → Int} {x y z : Int} (h0 : φ st0 = 0) (hf : ∀ s r0 r1 b0 b1, φ (took s x y z r0 r1 b0 b1) = φ s + d r0 r1) : ∀ {gs : List Game} {l : List (Str × StD)}, sumF φ (gs.foldl (turnS x y z) l) = sumF φ l + sumG (fun g => d g.r g.s + d g.s g.r) gs
  | [], l => by show sumF φ l = sumF φ l + 0; omega
  | g :: gs, l => by
    show sumF φ (gs.foldl (turnS x y z) (turnS x y z l g)) = _
    rw [sumF_fold h0 hf (gs := gs), turnS, sumF_upS h0 (fun s => hf s _ _ _ _), sumF_upS h0 (fun s => hf s _ _ _ _)]
    show _ = sumF φ l + (d g.r g.s + d g.s g.r + sumG _ gs)
    omega
theorem sumG_eq {δ δ' : Game → Int} (h : ∀ g, δ g = δ' g) (gs : List Game) : sumG δ gs = sumG δ' gs := by rw [funext h]
def dWon (a b : Int) : Int := if a = b then 0 else if a < b then 0 else 1
def dLost (a b : Int) : Int := if a = b then 0 else if a < b then 1 else 0
def dTied (a b : Int) : Int := if a = b then 1 else 0
def dPts (x y z a b : Int) : Int := if a = b then y else if a < b then z else x
theorem took_won (s : StD) (x y z r0 r1 b0 b1 : Int) : (took s x y z r0 r1 b0 b1).won = s.won + dWon r0 r1 := by unfold took dWon; split <;> (try split) <;> simp
theorem took_lost (s : StD) (x y z r0 r1 b0 b1 : Int) : (took s x y z r0 r1 b0 b1).lost = s.lost + dLost r0 r1 := by unfold took dLost; split <;> (try split) <;> simp
theorem took_tied (s : StD) (x y z r0 r1 b0 b1 : Int) : (took s x y z r0 r1 b0 b1).tied = s.tied + dTied r0 r1 := by unfold took dTied; split <;> (try split) <;> simp
theorem took_pts (s : StD) (x y z r0 r1 b0 b1 : Int) : (took s x y z r0 r1 b0 b1).pts = s.pts + dPts x y z r0 r1 := by unfold took dPts; split <;> (try split) <;> simp
theorem sum_won (x y z : Int) (gs : List Game) : sumF StD.won (stands x y z gs) = sumF StD.lost (stands x y z gs) := by
  unfold stands
  rw [sumF_fold (d := dWon) rfl (fun s r0 r1 b0 b1 => took_won s x y z r0 r1 b0 b1), sumF_fold (d := dLost) rfl (fun s r0 r1 b0 b1 => took_lost s x y z r0 r1 b0 b1)]
  rw [sumG_eq (δ' := fun g => dLost g.r g.s + dLost g.s g.r) fun g => ?_]
  · rfl
  · dsimp only [dWon, dLost]
    split <;> split <;> (try split) <;> (try split) <;> omega
theorem sum_tied (x y z : Int) (gs : List Game) : sumF StD.tied (stands x y z gs) = 2 * ((gs.filter fun g => decide (g.r = g.s)).length : Nat) := by
  unfold stands
  rw [sumF_fold (d := dTied) rfl (fun s r0 r1 b0 b1 => took_tied s x y z r0 r1 b0 b1)]
  show 0 + _ = _
  rw [Int.zero_add]
  induction gs with
  | nil => rfl
  | cons g r ih =>
    show dTied g.r g.s + dTied g.s g.r + sumG _ r = _
    rw [ih]
    unfold dTied
    by_cases c : g.r = g.s
    · rw [if_pos c, if_pos c.symm, List.filter_cons_of_pos (by simpa using c), List.length_cons]; omega
    · rw [if_neg c, if_neg (fun h => c h.symm), List.filter_cons_of_neg (by simpa using c)]; omega
theorem sum_pts (x y z : Int) (gs : List Game) : sumF StD.pts (stands x y z gs) = dueP x y z gs := by
  unfold stands
  rw [sumF_fold (d := dPts x y z) rfl (fun s r0 r1 b0 b1 => took_pts s x y z r0 r1 b0 b1)]
  show 0 + _ = _
  rw [Int.zero_add]
  induction gs with
  | nil => rfl
  | cons g r ih =>
    show dPts x y z g.r g.s + dPts x y z g.s g.r + sumG _ r = (if g.r = g.s then 2 * y else x + z) + dueP x y z r
    rw [ih]
    unfold dPts
    by_cases c : g.r = g.s
    · rw [if_pos c, if_pos c.symm, if_pos c]; omega
    · simp only [if_neg c, if_neg (show ¬ g.s = g.r from fun h => c h.symm)]
      by_cases c2 : g.r < g.s
      · rw [if_pos c2, if_neg (by omega)]; omega
      · rw [if_neg c2, if_pos (by omega)]
/-! ### turned games -/
theorem upS_lookup (f : StD → StD) (k j : Str) : ∀ l : List (Str × StD), (upS f k l).lookup j = if j = k then some (f ((l.lookup k).getD st0)) else l.lookup j
  | [] => by
    show (match j == k with | true => some (f st0) | false => none) = _
    by_cases c : j = k
    · rw [if_pos c, beq_iff_eq.mpr c]; rfl
    · rw [if_neg c, beq_eq_false_iff_ne.mpr c]; rfl
  | (i, s) :: r => by
    unfold upS
    by_cases ci : i = k
    · rw [if_pos ci]
      show (match j == i with | true => some (f s) | false => r.lookup j) = if j = k then some (f (((match k == i with | true => some s | false => r.lookup k) : Option StD).getD st0)) else (match j == i with | true => some s | false => r.lookup j)
      rw [ci, beq_self_eq_true]
      by_cases c : j = k
      · rw [if_pos c, beq_iff_eq.mpr c]; rfl
      · rw [if_neg c, beq_eq_false_iff_ne.mpr c]
    · rw [if_neg ci]
      show (match j == i with | true => some s | false => (upS f k r).lookup j) = if j = k then some (f (((match k == i with | true => some s | false => r.lookup k) : Option StD).getD st0)) else (match j == i with | true => some s | false => r.lookup j)
      rw [beq_eq_false_iff_ne.mpr (fun h : k = i => ci h.symm), upS_lookup f k j r]
      by_cases c : j = k
      · rw [if_pos c, if_pos c, beq_eq_false_iff_ne.mpr (fun h : j = i => ci (h.symm.trans c))]
      · rw [if_neg c, if_neg c]
/-- what a team has, as a map -/
abbrev Mp := Str → Option StD
def opsOf (gs : List Game) : List (Str × (Int × Int) × (Int × Int)) := gs.flatMap fun g => [(g.a, (g.r, g.s), (g.n, g.m)), (g.b, (g.s, g.r), (g.m, g.n))]
def stepM (x y z : Int) (F : Mp) (o : Str × (Int × Int) × (Int × Int)) : Mp := fun j => if j = o.1 then some (took ((F o.1).getD st0) x y z o.2.1.1 o.2.1.2 o.2.2.1 o.2.2.2) else F j
def lkM (l : List (Str × StD)) : Mp := fun j => l.lookup j
theorem lk_upS (f : StD → StD) (k : Str) (l : List (Str × StD)) : lkM (upS f k l) = fun j => if j = k then some (f ((lkM l k).getD st0)) else lkM l j := funext fun j => upS_lookup f k j l
theorem lk_fold (x y z : Int) : ∀ {gs : List Game} {l : List (Str × StD)}, lkM (gs.foldl (turnS x y z) l) = (opsOf gs).foldl (stepM x y z) (lkM l)
  | [], _ => rfl
  | g :: gs, l => by
    show lkM (gs.foldl (turnS x y z) (turnS x y z l g)) = (opsOf gs).foldl (stepM x y z) (stepM x y z (stepM x y z (lkM l) (g.a, (g.r, g.s), (g.n, g.m))) (g.b, (g.s, g.r), (g.m, g.n)))
    rw [lk_fold x y z (gs := gs), turnS, lk_upS, lk_upS]
    rfl
theorem took_comm (s : StD) (x y z a b c d a' b' c' d' : Int) : took (took s x y z a b c d) x y z a' b' c' d' = took (took s x y z a' b' c' d') x y z a b c d := by
  have e : ∀ (s : StD) (a b c d : Int), took s x y z a b c d = ⟨s.pts + dPts x y z a b, s.won + dWon a b, s.tied + dTied a b, s.lost + dLost a b, s.rm + a, s.ro + b, s.bm + c, s.bo + d⟩ := by
    intro s a b c d
    unfold took dPts dWon dTied dLost
    split <;> (try split) <;> simp
  rw [e, e, e s a' b' c' d', e]
  simp only [StD.mk.injEq]
  omega
theorem step_comm (x y z : Int) (F : Mp) (o p : Str × (Int × Int) × (Int × Int)) : stepM x y z (stepM x y z F o) p = stepM x y z (stepM x y z F p) o := by
  funext j
  unfold stepM
  by_cases c : o.1 = p.1
  · by_cases cj : j = p.1
    · simp only [c, cj, if_true, Option.getD_some]
      rw [took_comm]
    · simp only [c, cj, if_false]
  · have c' : ¬ p.1 = o.1 := fun h => c h.symm
    by_cases cj : j = p.1
    · simp only [cj, if_true, if_neg c, if_neg c']
    · by_cases ck : j = o.1
      · simp only [ck, if_true, if_neg c, if_neg c']
      · simp only [cj, ck, if_false]
theorem ops_turned : ∀ gs : List Game, (opsOf (turned gs)).Perm (opsOf gs)
  | [] => .nil
  | g :: gs => by
    have h1 : turned (g :: gs) = turned gs ++ [swapG g] := by unfold turned; rw [List.reverse_cons, List.map_append]; rfl
    have h2 : opsOf (turned gs ++ [swapG g]) = opsOf (turned gs) ++ [(g.b, (g.s, g.r), (g.m, g.n)), (g.a, (g.r, g.s), (g.n, g.m))] := by unfold opsOf; rw [List.flatMap_append]; rfl
    rw [h1, h2]
    show (opsOf (turned gs) ++ _).Perm ([(g.a, (g.r, g.s), (g.n, g.m)), (g.b, (g.s, g.r), (g.m, g.n))] ++ opsOf gs)
    refine (List.perm_append_comm).trans ?_
    refine List.Perm.append ?_ (ops_turned gs)
    exact List.Perm.swap _ _ _
theorem mem_lookup {l : List (Str × StD)} (nd : (l.map Prod.fst).Nodup) (p : Str × StD) : p ∈ l ↔ lkM l p.1 = some p.2 := ⟨fun h => lookup_nd nd h, fun h => lookup_mem' h⟩
theorem nodup_of_fst {l : List (Str × StD)} (nd : (l.map Prod.fst).Nodup) : l.Nodup := by
  rw [List.Nodup, List.pairwise_map] at nd
  exact nd.imp fun h e => h (by rw [e])
theorem perm_of_lookup {l l' : List (Str × StD)} (nd : (l.map Prod.fst).Nodup) (nd' : (l'.map Prod.fst).Nodup) (h : lkM l = lkM l') : l.Perm l' :=
  (List.perm_ext_iff_of_nodup (nodup_of_fst nd) (nodup_of_fst nd')).mpr fun p => by rw [mem_lookup nd, mem_lookup nd', h]
theorem stands_turned (x y z : Int) (gs : List Game) : (stands x y z (turned gs)).Perm (stands x y z gs) := by
  refine perm_of_lookup (stands_nd x y z _) (stands_nd x y z _) ?_
  unfold stands
  rw [lk_fold, lk_fold]
  exact List.Perm.foldl_eq' (ops_turned gs) (fun o _ p _ F => step_comm x y z F o p) _
/-! N5: where name is a breaker there is one order. -/
open PySem PySem.Spec PyProof.Rows L2
theorem cross {na da nb db nc dc : Int} (ha : 0 < da) (hb : 0 < db) (hc : 0 < dc) (h1 : nb * da ≤ na * db) (h2 : nc * db ≤ nb * dc) : nc * da ≤ na * dc ∧ ((nb * da < na * db ∨ nc * db < nb * dc) → nc * da < na * dc) := by
  have k1 : nb * da * dc ≤ na * db * dc := Int.mul_le_mul_of_nonneg_right h1 (Int.le_of_lt hc)
  have k2 : nc * db * da ≤ nb * dc * da := Int.mul_le_mul_of_nonneg_right h2 (Int.le_of_lt ha)
  have e1 : nb * dc * da = nb * da * dc := by rw [Int.mul_assoc, Int.mul_comm dc da, ← Int.mul_assoc]
  have e2 : nc * db * da = db * (nc * da) := by rw [Int.mul_comm nc db, Int.mul_assoc]
  have e3 : na * db * dc = db * (na * dc) := by rw [Int.mul_comm na db, Int.mul_assoc]
  refine ⟨Int.le_of_mul_le_mul_left (a := db) (by omega) hb, fun h => ?_⟩
  have k3 : db * (nc * da) < db * (na * dc) := by
    rcases h with h | h
    · have : nb * da * dc < na * db * dc := Int.mul_lt_mul_of_pos_right h hc
      omega
    · have : nc * db * da < nb * dc * da := Int.mul_lt_mul_of_pos_right h ha
      omega
  exact Int.lt_of_mul_lt_mul_left k3 (Int.le_of_lt hb)
theorem rate_pos {s : StD} (ok : StOk s) : 0 < (rateD s).2 := by
  have h : Wi 9223372036854775808 (-9223372036854775808) s := by
    unfold Wi
    have c1 := ok.rm
    have c2 := ok.ro
    have c3 := ok.bm
    have c4 := ok.bo
    omega
  exact (wi_rate ok h).1
theorem side_trans {w : Str} {a b c : StD} (oa : StOk a) (ob : StOk b) (oc : StOk c) (h1 : sideW w b a ≤ sideW w a b) (h2 : sideW w c b ≤ sideW w b c) :
    sideW w c a ≤ sideW w a c ∧ ((sideW w b a < sideW w a b ∨ sideW w c b < sideW w b c) → sideW w c a < sideW w a c) := by
  unfold sideW at h1 h2 ⊢
  by_cases r : w = "runs"
  · simp only [if_pos r] at h1 h2 ⊢
    omega
  · by_cases t : w = "rate"
    · simp only [if_neg r, if_pos t] at h1 h2 ⊢
      exact cross (rate_pos oa) (rate_pos ob) (rate_pos oc) h1 h2
    · simp only [if_neg r, if_neg t] at h1 h2 ⊢
      omega
theorem ahd_trans {a b c : Str × StD} (oa : StOk a.2) (ob : StOk b.2) (oc : StOk c.2) : ∀ {ws : List Str}, ahd false a b ws = true → ahd false b c ws = true → ahd false a c ws = true
  | [], h, _ => by cases h
  | w :: ws, h1, h2 => by
    unfold ahd at h1 h2 ⊢
    by_cases n : w = "name"
    · rw [if_pos n] at h1 h2 ⊢
      exact decide_eq_true (List.lt_trans (of_decide_eq_true h1) (of_decide_eq_true h2))
    · rw [if_neg n] at h1 h2 ⊢
      by_cases e1 : sideW w a.2 b.2 = sideW w b.2 a.2
      · by_cases e2 : sideW w b.2 c.2 = sideW w c.2 b.2
        · rw [if_pos e1] at h1
          rw [if_pos e2] at h2
          have t1 := (side_trans oa ob oc (Int.le_of_eq e1.symm) (Int.le_of_eq e2.symm)).1
          have t2 := (side_trans oc ob oa (Int.le_of_eq e2) (Int.le_of_eq e1)).1
          rw [if_pos (Int.le_antisymm t2 t1)]
          exact ahd_trans oa ob oc h1 h2
        · rw [if_neg e2] at h2
          have t := (side_trans oa ob oc (Int.le_of_eq e1.symm) (Int.le_of_lt (of_decide_eq_true h2))).2 (.inr (of_decide_eq_true h2))
          rw [if_neg (by omega)]
          exact decide_eq_true t
      · rw [if_neg e1] at h1
        have h1' := of_decide_eq_true h1
        have h2' : sideW w c.2 b.2 ≤ sideW w b.2 c.2 := by
          by_cases e2 : sideW w b.2 c.2 = sideW w c.2 b.2
          · exact Int.le_of_eq e2.symm
          · rw [if_neg e2] at h2
            exact Int.le_of_lt (of_decide_eq_true h2)
        have t := (side_trans oa ob oc (Int.le_of_lt h1') h2').2 (.inl h1')
        rw [if_neg (by omega)]
        exact decide_eq_true t
theorem ahd_asym {a b : Str × StD} : ∀ {ws : List Str}, ahd false a b ws = true → ahd false b a ws = true → False
  | [], h, _ => by cases h
  | w :: ws, h1, h2 => by
    unfold ahd at h1 h2
    by_cases n : w = "name"
    · rw [if_pos n] at h1 h2
      exact List.lt_asymm (of_decide_eq_true h1) (of_decide_eq_true h2)
    · rw [if_neg n] at h1 h2
      by_cases e : sideW w a.2 b.2 = sideW w b.2 a.2
      · rw [if_pos e] at h1
        rw [if_pos e.symm] at h2
        exact ahd_asym h1 h2
      · rw [if_neg e] at h1
        rw [if_neg fun h => e h.symm] at h2
        have := of_decide_eq_true h1
        have := of_decide_eq_true h2
        omega
theorem goes_trans {ws : List Str} {a b c : Str × StD} (oa : StOk a.2) (ob : StOk b.2) (oc : StOk c.2) (h1 : goesB ws false a b = true) (h2 : goesB ws false b c = true) : goesB ws false a c = true := by
  unfold goesB at h1 h2 ⊢
  by_cases e1 : a.2.pts = b.2.pts
  · by_cases e2 : b.2.pts = c.2.pts
    · rw [if_pos e1] at h1
      rw [if_pos e2] at h2
      rw [if_pos (e1.trans e2)]
      exact ahd_trans oa ob oc h1 h2
    · rw [if_neg e2] at h2
      have := of_decide_eq_true h2
      rw [if_neg (by omega)]
      exact decide_eq_true (by omega)
  · rw [if_neg e1] at h1
    have h1' := of_decide_eq_true h1
    by_cases e2 : b.2.pts = c.2.pts
    · rw [if_neg (by omega)]
      exact decide_eq_true (by omega)
    · rw [if_neg e2] at h2
      have := of_decide_eq_true h2
      rw [if_neg (by omega)]
      exact decide_eq_true (by omega)
theorem goes_asym {ws : List Str} {a b : Str × StD} (h1 : goesB ws false a b = true) (h2 : goesB ws false b a = true) : False := by
  unfold goesB at h1 h2
  by_cases e : a.2.pts = b.2.pts
  · rw [if_pos e] at h1
    rw [if_pos e.symm] at h2
    exact ahd_asym h1 h2
  · rw [if_neg e] at h1
    rw [if_neg fun h => e h.symm] at h2
    have := of_decide_eq_true h1
    have := of_decide_eq_true h2
    omega
theorem ahd_named {a b : Str × StD} (d d' : Bool) : ∀ {ws : List Str}, (("name" : Str) ∈ ws) → ahd d a b ws = ahd d' a b ws
  | [], h => by cases h
  | w :: ws, h => by
    unfold ahd
    by_cases n : w = "name"
    · rw [if_pos n, if_pos n]
    · rw [if_neg n, if_neg n]
      rcases List.mem_cons.mp h with e | m
      · exact absurd e.symm n
      · rw [ahd_named d d' m]
theorem goes_named {ws : List Str} {a b : Str × StD} (d d' : Bool) (h : ("name" : Str) ∈ ws) : goesB ws d a b = goesB ws d' a b := by
  unfold goesB
  rw [ahd_named d d' h]
theorem pw_of_adj {α : Type} {R : α → α → Prop} : ∀ {l : List α}, (∀ a ∈ l, ∀ b ∈ l, ∀ c ∈ l, R a b → R b c → R a c) → (∀ (k : Nat) a b, l[k]? = some a → l[k + 1]? = some b → R a b) → l.Pairwise R
  | [], _, _ => .nil
  | [a], _, _ => List.pairwise_singleton _ _
  | a :: b :: r, tr, h => by
    have ih : (b :: r).Pairwise R := pw_of_adj (fun x hx y hy z hz => tr x (List.mem_cons_of_mem _ hx) y (List.mem_cons_of_mem _ hy) z (List.mem_cons_of_mem _ hz)) (fun k x y hx hy => h (k + 1) x y hx hy)
    have hab : R a b := h 0 a b rfl rfl
    refine List.pairwise_cons.mpr ⟨fun x hx => ?_, ih⟩
    rcases List.mem_cons.mp hx with rfl | m
    · exact hab
    · exact tr a List.mem_cons_self b (List.mem_cons_of_mem _ List.mem_cons_self) x (List.mem_cons_of_mem _ hx) hab ((List.pairwise_cons.mp ih).1 x m)
theorem sort_pw {ws : List Str} {T : List (Str × StD)} (nd : (T.map Prod.fst).Nodup) (ok : ∀ s ∈ T, StOk s.2) (hn : ("name" : Str) ∈ ws) : (sortK ws T).Pairwise fun a b => goesB ws false a b = true := by
  have hp := sort_perm (ws := ws) nd
  refine pw_of_adj (fun a ha b hb c hc h1 h2 => goes_trans (ok a (hp.mem_iff.mp ha)) (ok b (hp.mem_iff.mp hb)) (ok c (hp.mem_iff.mp hc)) h1 h2) fun k a b ha hb => ?_
  obtain ⟨i, j, _, _, h⟩ := sort_adj (ws := ws) nd k a b ha hb
  rw [goes_named false _ hn]
  exact h
theorem sort_one {ws : List Str} {T T' : List (Str × StD)} (nd : (T.map Prod.fst).Nodup) (nd' : (T'.map Prod.fst).Nodup) (ok : ∀ s ∈ T, StOk s.2) (hp : T'.Perm T) (hn : ("name" : Str) ∈ ws) : sortK ws T = sortK ws T' :=
  List.Perm.eq_of_pairwise (fun a b _ _ h1 h2 => (goes_asym h1 h2).elim) (sort_pw nd ok hn) (sort_pw nd' (fun s m => ok s (hp.mem_iff.mp m)) hn) (((sort_perm nd).trans hp.symm).trans (sort_perm nd').symm)
/-- sorted by name there is one order -/
theorem named_one {l l' : List (Str × StD)} (nd : (l.map Prod.fst).Nodup) (h : l.Pairwise fun x y => ¬ y.1.cps.toList < x.1.cps.toList) (h' : l'.Pairwise fun x y => ¬ y.1.cps.toList < x.1.cps.toList) (p : l.Perm l') : l = l' := by
  refine List.Perm.eq_of_pairwise (fun a b ha hb h1 h2 => ?_) h h' p
  have e : a.1 = b.1 := Classical.byContradiction fun n => h2 (cps_tri h1 fun e => n e.symm)
  have ha' : (a.1, a.2) ∈ l := ha
  have hb' : (a.1, b.2) ∈ l := by rw [e]; exact p.mem_iff.mpr hb
  have e1 := lookup_nd nd ha'
  have e2 := lookup_nd nd hb'
  have e3 : a.2 = b.2 := Option.some.inj (e1.symm.trans e2)
  exact Prod.ext e e3
theorem perm_back {α β : Type} {f : α → β} : ∀ {ys : List β} {l : List α}, ys.Perm (l.map f) → ∃ l' : List α, l'.Perm l ∧ ys = l'.map f
  | [], l, h => by
    have := h.symm.eq_nil
    have e : l = [] := List.map_eq_nil_iff.mp this
    exact ⟨[], by rw [e], rfl⟩
  | y :: ys, l, h => by
    have hm : y ∈ l.map f := h.mem_iff.mp List.mem_cons_self
    obtain ⟨x, hx, rfl⟩ := List.mem_map.mp hm
    obtain ⟨s, t, rfl⟩ := List.append_of_mem hx
    have h2 : (f x :: ys).Perm (f x :: (s ++ t).map f) := h.trans (by
      rw [List.map_append, List.map_append, List.map_cons]
      exact List.perm_middle)
    obtain ⟨l', hp, e⟩ := perm_back (List.Perm.cons_inv h2)
    exact ⟨x :: l', (List.Perm.cons x hp).trans List.perm_middle.symm, by rw [e]; rfl⟩
/-! N6: the law of games any way about. -/
open PySem PySem.Spec PyProof.Rows L2
open Evl (tCut)
local macro_rules | `(tactic| walk_at "one") => `(tactic| first | (with_reducible refine x_kPar rfl ?_; dsimp only [List.set]) | with_reducible refine iteT2 ?_ | with_reducible refine iteF2 ?_)
section
variable {K : PySem.W.Frag} {H : Hp} {Q : VK} {s0 s1 s2 s3 s5 : Option V} {l : Addr} {ps : List (Addr × Addr × (Str × StD))}
theorem x_sum {D : Addr} {ns : List Int} (s : SqL K H D (ns.map V.int)) (h : Q (.int ns.sum) H) : rSum K [.ref D] H Q := ⟨D, ns, rfl, s, h⟩
theorem x_all {D : Addr} {bs : List Bool} (s : SqL K H D (bs.map V.bl)) (h : Q (.bl (bs.all id)) H) : rAll K [.ref D] H Q := ⟨D, bs, rfl, s, h⟩
/-- a comprehension over rows, an int of each -/
theorem rows_lc {c : Int} {φ : Str × StD → Int} (R : H l = some (.lst (ps.map fun p => .ref p.1))) (hl : ps.length ≤ 1000) (Rr : ∀ r ∈ ps, H r.1 = some (.tup (row5 r.2.2 ++ [.ref r.2.1]))) (hc : ∀ s q, atI (row5 s ++ [V.ref q]) c = some (.int (φ s)))
    (k : ∀ D H', H D = none → Same H H' → H' D = some (.lst ((ps.map fun r => φ r.2.2).map V.int)) → Q (.ref D) H') :
    tLc (iList K (tVar 4)) (gName 6) tYes (tOp (rIxT K) (tVar 6) (tC (.int c))) [6] [s0, s1, s2, s3, some (.ref l), s5, none, none] H Q := by
  refine x_lcL ?_
  walk_at "st"
  refine x_kLcL (SqL.of R) (fun D j H8 => Same H H8 ∧ H D = none ∧ H8 D = some (.lst (((ps.take j).map fun r => φ r.2.2).map V.int))) (fun D H8 nD s8 e8 => ⟨s8, nD, e8⟩) ?_ ?_ ?_
  · rintro D j H8 _ ⟨s8, _, _⟩
    exact SqL.of (s8 _ _ R)
  · rintro D j v H8 hv ⟨s8, nD, e8⟩
    rw [List.getElem?_map] at hv
    obtain ⟨r, hr, rfl⟩ := Option.map_eq_some_iff.mp hv
    have mr : r ∈ ps := List.mem_of_getElem? hr
    rw [show wipe [s0, s1, s2, s3, some (V.ref l), s5, none, none] [6] = [s0, s1, s2, s3, some (V.ref l), s5, none, none] from rfl]
    walk_at "st"
    refine ⟨rfl, ?_⟩
    unfold tYes
    refine iteT ?_
    walk_at "st"
    refine x_ixT (SqT.of (s8 _ _ (Rr r mr))) (hc _ _) ?_
    refine x_kAcc e8 (by rw [List.length_map, List.length_map, List.length_take]; omega) fun H9 b9 e9 => ⟨Same.but s8 nD b9, nD, ?_⟩
    have ht : ps.take (j + 1) = ps.take j ++ [r] := by rw [List.take_add_one, hr]; rfl
    rw [e9, ht, List.map_append, List.map_append]
    rfl
  · rintro D H8 ⟨s8, nD, e8⟩
    rw [List.length_map, List.take_length] at e8
    exact k D H8 nD s8 e8
/-- the tied games -/
theorem ties_lc {gl : Addr} {us : List V} {gs : List Game} {s4 : Option V} (R : SqL K H gl us) (G : GsRel K H us gs) (hl : gs.length ≤ 1000)
    (k : ∀ D H' ws, H D = none → Same H H' → H' D = some (.lst ws) → ws.length = (gs.filter fun g => decide (g.r = g.s)).length → Q (.ref D) H') :
    tLc (iList K (tVar 3)) (gName 7) (tTest (tOp rEq (tOp (rIxT K) (tVar 7) (tC (.int 1))) (tOp (rIxT K) (tVar 7) (tC (.int 4))))) (tVar 7) [7] [s0, s1, s2, some (.ref gl), s4, s5, none, none] H Q := by
  refine x_lcL ?_
  walk_at "st"
  refine x_kLcL R (fun D j H8 => Same H H8 ∧ H D = none ∧ ∃ ws, H8 D = some (.lst ws) ∧ ws.length = ((gs.take j).filter fun g => decide (g.r = g.s)).length) (fun D H8 nD s8 e8 => ⟨s8, nD, [], e8, rfl⟩) ?_ ?_ ?_
  · rintro D j H8 _ ⟨s8, _, _⟩
    exact Same.seq s8 R
  · rintro D j v H8 hv ⟨s8, nD, ws, e8, hw⟩
    have hlt : j < gs.length := by rw [← G.1]; exact (List.getElem?_eq_some_iff.mp hv).1
    obtain ⟨q, hq, ht⟩ := G.2 j gs[j] (List.getElem?_eq_getElem hlt)
    obtain rfl : v = .ref q := Option.some.inj (hv.symm.trans hq)
    have ht8 := Same.sqT s8 ht
    unfold gameV at ht8
    have ht2 : gs.take (j + 1) = gs.take j ++ [gs[j]] := by rw [List.take_add_one, List.getElem?_eq_getElem hlt]; rfl
    have hwl : ws.length ≤ 1000 := by
      have := List.length_filter_le (fun g : Game => decide (g.r = g.s)) (gs.take j)
      rw [List.length_take] at this
      omega
    rw [show wipe [s0, s1, s2, some (V.ref gl), s4, s5, none, none] [7] = [s0, s1, s2, some (V.ref gl), s4, s5, none, none] from rfl]
    walk_at "st"
    refine ⟨rfl, ?_⟩
    walk_at "st"
    refine x_dec (fun c => ?_) (fun c => ?_)
    · walk_at "st"
      refine x_kAcc e8 (by omega) fun H9 b9 e9 => ⟨Same.but s8 nD b9, nD, _, e9, ?_⟩
      rw [ht2, List.filter_append, List.length_append, List.length_append, hw, List.filter_cons_of_pos (by simpa using c)]
      rfl
    · refine ⟨s8, nD, ws, e8, ?_⟩
      rw [ht2, List.filter_append, List.length_append, hw, List.filter_cons_of_neg (by simpa using c)]
      rfl
  · rintro D H8 ⟨s8, nD, ws, e8, hw⟩
    rw [G.1, List.take_length] at hw
    exact k D H8 ws nD s8 e8 hw
/-- a row's name by its place -/
def kName (ps : List (Addr × Addr × (Str × StD))) (v : V) : Str := match v with
  | .ref a => ((ps.find? fun p => decide (p.1 = a)).map fun p => p.2.2.1).getD ""
  | _ => ""
theorem kName_at (h : ∀ p ∈ ps, ∀ q ∈ ps, p.1 = q.1 → p.2.2.1 = q.2.2.1) {p : Addr × Addr × (Str × StD)} (m : p ∈ ps) : kName ps (.ref p.1) = p.2.2.1 := by
  show ((ps.find? fun q => decide (q.1 = p.1)).map fun q => q.2.2.1).getD ("" : Str) = _
  cases e : ps.find? fun q => decide (q.1 = p.1) with
  | none =>
    have := List.find?_eq_none.mp e p m
    simp at this
  | some q =>
    have h1 := List.find?_some e
    have h2 := List.mem_of_find?_eq_some e
    exact h q h2 p m (of_decide_eq_true h1)
/-- sorted, by the rows' names -/
theorem rows_sorted (R : H l = some (.lst (ps.map fun p => .ref p.1))) (Rr : ∀ r ∈ ps, H r.1 = some (.tup (row5 r.2.2 ++ [.ref r.2.1]))) (nd : ((ps.map fun p => p.2.2).map Prod.fst).Nodup)
    (k : ∀ p H' (ps' : List (Addr × Addr × (Str × StD))), H p = none → Same H H' → H' p = some (.lst (ps'.map fun q => V.ref q.1)) → ps'.Perm ps → (ps'.map fun q => q.2.2).Pairwise (fun x y => ¬ y.1.cps.toList < x.1.cps.toList) → Q (.ref p) H') : rSortF K [.ref l] H Q := by
  have hk : ∀ p ∈ ps, ∀ q ∈ ps, p.1 = q.1 → p.2.2.1 = q.2.2.1 := fun p hp q hq e => by
    have h1 := Rr p hp
    have h2 := Rr q hq
    rw [e, h2] at h1
    unfold row5 at h1
    injection h1 with h1
    injection h1 with h1
    injection h1 with h1
    injection h1 with h1
    exact h1.symm
  refine x_sortF (kName ps) (SqL.of R) (fun x hx => ?_) (fun x hx y hy e => ?_) fun p ys H' hpw hperm hn s e => ?_
  · obtain ⟨r, mr, rfl⟩ := List.mem_map.mp hx
    exact ⟨r.1, [.int r.2.2.2.pts, .int r.2.2.2.won, .int r.2.2.2.tied, .int r.2.2.2.lost, .ref r.2.1], rfl, by rw [kName_at hk mr, Rr r mr]; rfl⟩
  · obtain ⟨r, mr, rfl⟩ := List.mem_map.mp hx
    obtain ⟨t, mt, rfl⟩ := List.mem_map.mp hy
    rw [kName_at hk mr, kName_at hk mt] at e
    obtain ⟨i, hi⟩ := List.getElem?_of_mem mr
    obtain ⟨j, hj⟩ := List.getElem?_of_mem mt
    have h1 : ((ps.map fun p => p.2.2).map Prod.fst)[i]? = some r.2.2.1 := by rw [List.getElem?_map, List.getElem?_map, hi]; rfl
    have h2 : ((ps.map fun p => p.2.2).map Prod.fst)[j]? = some t.2.2.1 := by rw [List.getElem?_map, List.getElem?_map, hj]; rfl
    have : i = j := (List.getElem?_inj (List.getElem?_eq_some_iff.mp h1).1 nd).mp (h1.trans (by rw [h2, e]))
    rw [this, hj] at hi
    rw [Option.some.inj hi]
  · obtain ⟨ps', hp, rfl⟩ := perm_back hperm
    refine k p H' ps' hn s e hp ?_
    rw [List.pairwise_map] at hpw ⊢
    refine List.Pairwise.imp_of_mem (fun {a b} ha hb h => ?_) hpw
    rw [kName_at hk (hp.mem_iff.mp ha), kName_at hk (hp.mem_iff.mp hb)] at h
    exact h
end
theorem x_inS {K : PySem.W.Frag} {H : Hp} {Q : VK} {q : Addr} {nm : Str} {xs : List Str} (s : SqL K H q (xs.map V.str)) (h : Q (.bl (decide (nm ∈ xs))) H) : rIn K false (.str nm) (.ref q) H Q := by
  refine ⟨q, _, rfl, .inl s, rfl, by rw [List.all_eq_true]; intro v hv; obtain ⟨k, _, rfl⟩ := List.mem_map.mp hv; rfl, ?_⟩
  have e : inV (.str nm) (xs.map V.str) = decide (nm ∈ xs) := by
    unfold inV
    rw [Bool.eq_iff_iff, List.any_eq_true, decide_eq_true_iff]
    constructor
    · rintro ⟨v, hv, h⟩
      obtain ⟨k, hk, rfl⟩ := List.mem_map.mp hv
      have : k = nm := by simpa [eqV] using h
      rw [← this]; exact hk
    · intro h
      exact ⟨.str nm, List.mem_map.mpr ⟨nm, h, rfl⟩, by simp [eqV]⟩
  show Q (.bl (inV (.str nm) (xs.map V.str))) H
  rw [e]
  exact h
theorem sum_rows {φ : StD → Int} {ps : List (Addr × Addr × (Str × StD))} {ws : List Str} {T : List (Str × StD)} (h : ps.map (fun p => p.2.2) = sortK ws T) (nd : (T.map Prod.fst).Nodup) : (ps.map fun r => φ r.2.2.2).sum = sumF φ T := by
  rw [← sumF_perm (sort_perm (ws := ws) nd), ← h]
  unfold sumF
  rw [List.map_map]
  rfl
theorem turned_ok {gs : List Game} (h : ∀ g ∈ gs, GameOk g) : ∀ g ∈ turned gs, GameOk g := by
  intro g m
  unfold turned at m
  obtain ⟨g', m', rfl⟩ := List.mem_map.mp m
  have o := h g' (List.mem_reverse.mp m')
  exact ⟨o.s, o.m, o.r, o.n⟩
/-! N7: the law of k74. -/
open PySem PySem.Spec PyProof.Rows L2
open Evl (tCut)
local macro_rules | `(tactic| walk_at "one") => `(tactic| first | (with_reducible refine x_kPar rfl ?_; dsimp only [List.set]) | with_reducible refine iteT2 ?_ | with_reducible refine iteF2 ?_)
def N_law : List Str := ["_law_script", "_law_points", "_law_breakers_here", "_law_games_here", "_law_found", "_law_other", "_law_row", "_law_game"]
def t_law (K : PySem.W.Frag) : TS := (tSeq (tAsg (tCall (spLeague K) [] E0 (tCons (tVar 0) (tCons (tC (.int 40)) tNil))) (gTup K 3 (gCons (gName 1) (gCons (gName 2) (gCons (gName 3) gNil)))))
  (tSeq (tAsg (tCall (spStanding K) [] E0 (tCons (tVar 1) (tCons (tVar 2) (tCons (tVar 3) tNil)))) (gName 4))
  (tSeq (tIfS (tTest (tOp rNe (tCB (rSum K) (tCons (tLc (iList K (tVar 4)) (gName 6) tYes (tOp (rIxT K) (tVar 6) (tC (.int 2))) [6]) tNil)) (tCB (rSum K) (tCons (tLc (iList K (tVar 4)) (gName 6) tYes (tOp (rIxT K) (tVar 6) (tC (.int 4))) [6]) tNil))))
  (tRet (tC (.bl false)))
  tNext)
  (tSeq (tIfS (tTest (tOp rNe (tCB (rSum K) (tCons (tLc (iList K (tVar 4)) (gName 6) tYes (tOp (rIxT K) (tVar 6) (tC (.int 3))) [6]) tNil)) (tOp nMul (tC (.int 2)) (tCB (cLenQ K) (tCons (tLc (iList K (tVar 3)) (gName 7) (tTest (tOp rEq (tOp (rIxT K) (tVar 7) (tC (.int 1))) (tOp (rIxT K) (tVar 7) (tC (.int 4))))) (tVar 7) [7]) tNil)))))
  (tRet (tC (.bl false)))
  tNext)
  (tSeq (tIfS (tTest (tOp rNe (tCB (rSum K) (tCons (tLc (iList K (tVar 4)) (gName 6) tYes (tOp (rIxT K) (tVar 6) (tC (.int 1))) [6]) tNil)) (tCall (spDuePts K) [] E0 (tCons (tVar 1) (tCons (tVar 3) tNil)))))
  (tRet (tC (.bl false)))
  tNext)
  (tSeq (tAsg (tCall (spStanding K) [] E0 (tCons (tVar 1) (tCons (tVar 2) (tCons (tCall (spTurned K) [] E0 (tCons (tVar 3) tNil)) tNil)))) (gName 5))
  (tSeq (tIfS (tOr (tTest (tOp (rNeD K) (tCB (rSortF K) (tCons (tVar 4) tNil)) (tCB (rSortF K) (tCons (tVar 5) tNil)))) (tAnd (tTest (tOp (rIn K false) (tC (.str "name")) (tVar 2))) (tTest (tOp (rNeD K) (tVar 4) (tVar 5)))))
  (tRet (tC (.bl false)))
  tNext)
  (tRet (tCB (rAll K) (tCons (tLc (iList K (tVar 4)) (gName 6) tYes (tAndV (tOp (rEqD K) (tOp (rIxT K) (tVar 6) (tC (.int 5))) (tCall (spRateOf K) [] E0 (tCons (tVar 3) (tCons (tOp (rIxT K) (tVar 6) (tC (.int 0))) tNil)))) (tCall (spWithin K) [] E0 (tCons (tVar 3) (tCons (tOp (rIxT K) (tVar 6) (tC (.int 0))) tNil)))) [6]) tNil))))))))))
theorem rd_law74 (K : PySem.W.Frag) : Reads N_law (spLaw K) (t_law K) := by
  rintro vs H Q E ⟨a, ns, rfl, ha, h63, k⟩
  show t_law K _ [some (.ref a), none, none, none, none, none, none, none] H
  unfold t_law
  walk_at "st"
  refine ⟨a, ns, 40, rfl, ha, h63, by omega, fun p pt bl gl x y z bs us gs many H1 L1 => ?_⟩
  refine x_gtup (SqT.of L1.hp) rfl ?_
  walk_at "st"
  have G := L1.games
  have ok : ∀ g ∈ gs, GameOk g := fun g m => (G.ok g m).ok
  have hgl : gs.length ≤ 1000 := by have := L1.len; omega
  have hbl : bs.length ≤ 1000 := by have := L1.brk.len; omega
  have hok : ∀ s ∈ stands x y z gs, StOk s.2 := stands_all ok hgl
  have hkey : ∀ s ∈ stands x y z gs, PyData.strOk s.1 = true := fun s m => namesOf_ok _ (stands_sub G.ok s.1 (List.mem_map.mpr ⟨s, m, rfl⟩))
  have nd := stands_nd x y z gs
  refine ⟨pt, bl, gl, x, y, z, bs, gs, rfl, SqT.of L1.hpt, SqL.of L1.hb, hbl, ⟨us, SqL.of G.hl, G.rel⟩, hgl, ok, fun l H2 ps s2 nl R hps => ?_⟩
  have hperm : (sortK bs (stands x y z gs)).Perm (stands x y z gs) := sort_perm nd
  have hpl : ps.length ≤ 1000 := by
    have h1 := congrArg List.length hps
    have h2 := hperm.length_eq
    have h3 := stands_len x y z gs
    have := L1.len
    rw [List.length_map] at h1
    omega
  walk_at "st"
  refine rows_lc (φ := fun s => s.2.won) R.hl hpl (fun r m => (R.hr r m).1) (fun s q => rfl) fun D3 H3 n3 s3 e3 => ?_
  walk_at "st"
  refine x_sum (SqL.of e3) ?_
  walk_at "st"
  have R3 := s3 _ _ R.hl
  refine rows_lc (φ := fun s => s.2.lost) R3 hpl (fun r m => s3 _ _ (R.hr r m).1) (fun s q => rfl) fun D4 H4 n4 s4 e4 => ?_
  walk_at "st"
  refine x_sum (SqL.of e4) ?_
  walk_at "st"
  refine x_nno (by rw [sum_rows hps nd, sum_rows hps nd, sum_won]) ?_
  walk_at "st"
  have s24 : Same H2 H4 := s3.trans s4
  refine rows_lc (φ := fun s => s.2.tied) (s24 _ _ R.hl) hpl (fun r m => s24 _ _ (R.hr r m).1) (fun s q => rfl) fun D5 H5 n5 s5 e5 => ?_
  walk_at "st"
  refine x_sum (SqL.of e5) ?_
  walk_at "st"
  have s15 : Same H1 H5 := (s2.trans s24).trans s5
  refine ties_lc (SqL.of (s15 _ _ G.hl)) (G.rel.same s15) hgl fun D6 H6 ws n6 s6 e6 hw => ?_
  walk_at "st"
  refine x_nno (by rw [sum_rows hps nd, sum_tied, hw]) ?_
  walk_at "st"
  have s26 : Same H2 H6 := (s24.trans s5).trans s6
  refine rows_lc (φ := fun s => s.2.pts) (s26 _ _ R.hl) hpl (fun r m => s26 _ _ (R.hr r m).1) (fun s q => rfl) fun D7 H7 n7 s7 e7 => ?_
  walk_at "st"
  refine x_sum (SqL.of e7) ?_
  walk_at "st"
  have s27 : Same H2 H7 := s26.trans s7
  have s17 : Same H1 H7 := s2.trans s27
  refine ⟨pt, gl, x, y, z, gs, rfl, SqT.of (s17 _ _ L1.hpt), ⟨us, SqL.of (s17 _ _ G.hl), G.rel.same s17⟩, ?_⟩
  walk_at "st"
  refine x_nno (by rw [sum_rows hps nd, sum_pts]) ?_
  walk_at "st"
  refine ⟨gl, gs, rfl, ⟨us, SqL.of (s17 _ _ G.hl), G.rel.same s17⟩, hgl, fun g2 us2 H8 n8 s8 e8 hr8 => ?_⟩
  walk_at "st"
  have s18 : Same H1 H8 := s17.trans s8
  have htl : (turned gs).length ≤ 1000 := by unfold turned; rw [List.length_map, List.length_reverse]; exact hgl
  refine ⟨pt, bl, g2, x, y, z, bs, turned gs, rfl, SqT.of (s18 _ _ L1.hpt), SqL.of (s18 _ _ L1.hb), hbl, ⟨us2, SqL.of e8, hr8⟩, htl, turned_ok ok, fun l2 H9 ps2 s9 nl2 R2 hps2 => ?_⟩
  have ndT := stands_nd x y z (turned gs)
  have hT := stands_turned x y z gs
  have hperm2 : (sortK bs (stands x y z (turned gs))).Perm (stands x y z (turned gs)) := sort_perm ndT
  have s29 : Same H2 H9 := (s27.trans s8).trans s9
  have s19 : Same H1 H9 := s18.trans s9
  walk_at "st"
  have ndp : ((ps.map fun p => p.2.2).map Prod.fst).Nodup := by rw [hps]; exact ((hperm.map Prod.fst).nodup_iff).mpr nd
  have ndp2 : ((ps2.map fun p => p.2.2).map Prod.fst).Nodup := by rw [hps2]; exact ((hperm2.map Prod.fst).nodup_iff).mpr ndT
  refine rows_sorted (s29 _ _ R.hl) (fun r m => s29 _ _ (R.hr r m).1) ndp fun qa Ha psa na sa ea hpa hwa => ?_
  walk_at "st"
  refine rows_sorted (sa _ _ R2.hl) (fun r m => sa _ _ (R2.hr r m).1) ndp2 fun qb Hb psb nb sb eb hpb hwb => ?_
  have s2b : Same H2 Hb := (s29.trans sa).trans sb
  have s9b : Same H9 Hb := sa.trans sb
  have hda := dpAll_rows (K := K) (H := Hb) (ps := psa) fun r m => ⟨s2b _ _ (R.hr r (hpa.mem_iff.mp m)).1, s2b _ _ (R.hr r (hpa.mem_iff.mp m)).2⟩
  have hdb := dpAll_rows (K := K) (H := Hb) (ps := psb) fun r m => ⟨s9b _ _ (R2.hr r (hpb.mem_iff.mp m)).1, s9b _ _ (R2.hr r (hpb.mem_iff.mp m)).2⟩
  have hpab : (psa.map fun p => p.2.2).Perm (psb.map fun p => p.2.2) := by
    refine ((hpa.map _).trans ?_).trans (hpb.map (fun p => p.2.2)).symm
    rw [hps, hps2]
    exact (hperm.trans hT.symm).trans hperm2.symm
  have hsame : (psa.map fun p => p.2.2) = psb.map fun p => p.2.2 := named_one (((hpa.map (fun p => p.2.2)).map Prod.fst).nodup_iff.mpr ndp) hwa hwb hpab
  rw [← hsame] at hdb
  have hmem : ∀ s ∈ psa.map fun p => p.2.2, s ∈ stands x y z gs := fun s m => hperm.mem_iff.mp (by rw [← hps]; exact (hpa.map (fun p => p.2.2)).mem_iff.mp m)
  refine x_neD (.lst (SqL.of (sb _ _ ea)) hda) (.lst (SqL.of eb) hdb) ((Shp.list (n := 2) fun d m => ?_).shaped (by decide)) ?_
  · obtain ⟨s, ms, rfl⟩ := List.mem_map.mp m
    exact Shp.row (hkey s (hmem s ms))
  walk_at "st"
  refine x_inS (SqL.of ((s19.trans s9b) _ _ L1.hb)) ?_
  have fin : ∀ Hc, Same Hb Hc → (tRet (tCB (rAll K) (tCons (tLc (iList K (tVar 4)) (gName 6) tYes (tAndV (tOp (rEqD K) (tOp (rIxT K) (tVar 6) (tC (.int 5))) (tCall (spRateOf K) [] E0 (tCons (tVar 3) (tCons (tOp (rIxT K) (tVar 6) (tC (.int 0))) tNil)))) (tCall (spWithin K) [] E0 (tCons (tVar 3) (tCons (tOp (rIxT K) (tVar 6) (tC (.int 0))) tNil)))) [6]) tNil)))
      ⟨fun _ H' => Q .non H', Q, fun _ _ => False, fun _ _ => False⟩ [some (V.ref a), some (V.ref pt), some (V.ref bl), some (V.ref gl), some (V.ref l), some (V.ref l2), none, none] Hc := by
    intro Hc sc
    have s2c := s2b.trans sc
    have s1c := s2.trans s2c
    walk_at "st"
    refine x_lcL ?_
    walk_at "st"
    refine x_kLcL (SqL.of (s2c _ _ R.hl)) (fun D j Hd => Same Hc Hd ∧ Hc D = none ∧ Hd D = some (.lst (((ps.take j).map fun _ => true).map V.bl))) (fun D Hd nD sd ed => ⟨sd, nD, ed⟩) ?_ ?_ ?_
    · rintro D j Hd _ ⟨sd, _, _⟩
      exact SqL.of (sd _ _ (s2c _ _ R.hl))
    · rintro D j v Hd hv ⟨sd, nD, ed⟩
      rw [List.getElem?_map] at hv
      obtain ⟨r, hr, rfl⟩ := Option.map_eq_some_iff.mp hv
      have mr : r ∈ ps := List.mem_of_getElem? hr
      have ms : r.2.2 ∈ stands x y z gs := hperm.mem_iff.mp (by rw [← hps]; exact List.mem_map.mpr ⟨r, mr, rfl⟩)
      obtain ⟨s', hlk, hrt⟩ := other_points (k := r.2.2.1) (s := r.2.2.2) ms
      have s2d := s2c.trans sd
      have s1d := s1c.trans sd
      rw [show wipe [some (V.ref a), some (V.ref pt), some (V.ref bl), some (V.ref gl), some (V.ref l), some (V.ref l2), none, none] [6] = [some (V.ref a), some (V.ref pt), some (V.ref bl), some (V.ref gl), some (V.ref l), some (V.ref l2), none, none] from rfl]
      walk_at "st"
      refine ⟨rfl, ?_⟩
      unfold tYes
      refine iteT ?_
      walk_at "st"
      refine x_ixT (v := .ref r.2.1) (SqT.of (s2d _ _ (R.hr r mr).1)) rfl ?_
      walk_at "st"
      refine x_ixT (v := .str r.2.2.1) (SqT.of (s2d _ _ (R.hr r mr).1)) rfl ?_
      walk_at "st"
      refine ⟨gl, gs, r.2.2.1, s', rfl, ⟨us, SqL.of (s1d _ _ G.hl), G.rel.same s1d⟩, hgl, ok, hlk, fun qe He se ee => ?_⟩
      rw [hrt] at ee
      refine x_eqD (Dq.dp (dq_fr (se _ _ (s2d _ _ (R.hr r mr).2)))) (Dq.dp (dq_fr ee)) ((Shp.fr _).shaped (by decide)) ?_
      walk_at "st"
      refine x_ixT (v := .str r.2.2.1) (SqT.of (se _ _ (s2d _ _ (R.hr r mr).1))) rfl ?_
      walk_at "st"
      refine ⟨gl, gs, r.2.2.1, s', rfl, ⟨us, SqL.of (se _ _ (s1d _ _ G.hl)), G.rel.same (s1d.trans se)⟩, hgl, ok, hlk, fun Hf sf => ?_⟩
      refine x_kAcc ((se.trans sf) _ _ ed) (by rw [List.length_map, List.length_map, List.length_take]; omega) fun Hg bg eg => ⟨Same.but (sd.trans (se.trans sf)) nD bg, nD, ?_⟩
      have ht : ps.take (j + 1) = ps.take j ++ [r] := by rw [List.take_add_one, hr]; rfl
      rw [eg, ht, List.map_append, List.map_append]
      rfl
    · rintro D Hd ⟨sd, nD, ed⟩
      rw [List.length_map, List.take_length] at ed
      walk_at "st"
      refine x_all (SqL.of ed) ?_
      rw [show (ps.map fun _ => true).all id = true from List.all_eq_true.mpr fun b hb => by obtain ⟨r, _, rfl⟩ := List.mem_map.mp hb; rfl]
      exact k _
  walk_at "st"
  refine x_dec (fun c => ?_) (fun c => ?_)
  · walk_at "st"
    have hd1 := dpAll_rows (K := K) (H := Hb) (ps := ps) fun r m => ⟨s2b _ _ (R.hr r m).1, s2b _ _ (R.hr r m).2⟩
    have hd2 := dpAll_rows (K := K) (H := Hb) (ps := ps2) fun r m => ⟨s9b _ _ (R2.hr r m).1, s9b _ _ (R2.hr r m).2⟩
    rw [hps2, ← sort_one nd ndT hok hT c, ← hps] at hd2
    refine x_neD (.lst (SqL.of (s2b _ _ R.hl)) hd1) (.lst (SqL.of (s9b _ _ R2.hl)) hd2) ((Shp.list (n := 2) fun d m => ?_).shaped (by decide)) ?_
    · obtain ⟨s, ms, rfl⟩ := List.mem_map.mp m
      exact Shp.row (hkey s (hperm.mem_iff.mp (by rw [← hps]; exact ms)))
    refine x_bl ?_
    refine iteF ?_
    refine x_next ?_
    exact fin Hb (Same.refl _)
  · exact fin Hb (Same.refl _)
local macro_rules | `(tactic| walk_at "lenof") => `(tactic| (intro vs H Q E h; repeat (first | (rcases h with ⟨h1, _⟩; rw [h1]; rfl) | (rcases h with ⟨_, h⟩))))
/-! ### the text: the row's top, the defs -/
def top (i : Nat) : Stmt := PySem.Challenge.pw_inningsbook_k74_whole_games_any_way_abou.main.body.getD i (.Pass ⟨0, 0, 0, 0⟩)
abbrev FnP (K : PySem.W.Frag) (x q : Str) (st : Stmt) (f : Addr) (fd : FuncData) : Prop := FunD K x q (defArgs st) (defBody st) (defScope st) [] [] f fd
def mkD (a : Str × Option Str) (n q : Str) (st : Stmt) : He.DefD := ⟨a, n, q, defArgs st, defBody st, defScope st, [], []⟩
abbrev s__law_at : Stmt := top 9
abbrev s__law_mixed : Stmt := top 10
abbrev s__law_names : Stmt := top 11
abbrev s__law_breakers : Stmt := top 12
abbrev s__law_small_game : Stmt := top 13
abbrev s__law_games : Stmt := top 14
abbrev s__law_league : Stmt := top 15
abbrev s_Standing_init : Stmt := inClass (top 3) 0
abbrev s_Standing_take_game : Stmt := inClass (top 3) 1
abbrev s_standings : Stmt := top 4
abbrev s_common_part : Stmt := top 1
abbrev s_lowest_terms : Stmt := top 2
abbrev s_Standing_rate : Stmt := inClass (top 3) 2
abbrev s_goes_ahead : Stmt := top 6
abbrev s_standing : Stmt := top 7
abbrev s__law_due_points : Stmt := top 17
abbrev s__law_turned : Stmt := top 16
abbrev s_rate_of : Stmt := top 5
abbrev s__law_within : Stmt := top 18
abbrev s_law : Stmt := top 19
def fn : List He.DefD := ([mkD ("_law_at", none) "_law_at" "_law_at" s__law_at, mkD ("_law_mixed", none) "_law_mixed" "_law_mixed" s__law_mixed, mkD ("_law_names", none) "_law_names" "_law_names" s__law_names, mkD ("_law_breakers", none) "_law_breakers" "_law_breakers" s__law_breakers, mkD ("_law_small_game", none) "_law_small_game" "_law_small_game" s__law_small_game, mkD ("_law_games", none) "_law_games" "_law_games" s__law_games, mkD ("_law_league", none) "_law_league" "_law_league" s__law_league, mkD ("Standing", some "__init__") "__init__" "Standing.__init__" s_Standing_init, mkD ("Standing", some "take_game") "take_game" "Standing.take_game" s_Standing_take_game, mkD ("standings", none) "standings" "standings" s_standings, mkD ("common_part", none) "common_part" "common_part" s_common_part, mkD ("lowest_terms", none) "lowest_terms" "lowest_terms" s_lowest_terms, mkD ("Standing", some "rate") "rate" "Standing.rate" s_Standing_rate, mkD ("goes_ahead", none) "goes_ahead" "goes_ahead" s_goes_ahead, mkD ("standing", none) "standing" "standing" s_standing, mkD ("_law_due_points", none) "_law_due_points" "_law_due_points" s__law_due_points, mkD ("_law_turned", none) "_law_turned" "_law_turned" s__law_turned, mkD ("rate_of", none) "rate_of" "rate_of" s_rate_of, mkD ("_law_within", none) "_law_within" "_law_within" s__law_within, mkD ("law", none) "law" "law" s_law] : List He.DefD)
def fa : List He.Fa := ([.glo "_law_at", .glo "_law_mixed", .glo "_law_names", .glo "_law_breakers", .glo "_law_small_game", .glo "_law_games", .glo "_law_league", .glo "standings", .glo "common_part", .glo "lowest_terms", .glo "goes_ahead", .glo "standing", .glo "_law_due_points", .glo "_law_turned", .glo "rate_of", .glo "_law_within", .glo "law", .glo "Standing", .cls "Standing", .mkr "Standing", .noat "Standing" "points", .noat "Standing" "tallies", .noat "Standing" "runs", .noat "Standing" "faced", .meth "Standing" "take_game"] : List He.Fa) ++ ([.meth "Standing" "rate", .free "abs", .free "all", .free "enumerate", .free "int", .free "len", .free "max", .free "min", .free "range", .free "reversed", .free "sorted", .free "sum", .free "tuple"] : List He.Fa)
/-! ### scopes -/
theorem sc__law_at : FnScope N__law_at ["_law_script", "_law_k"] (defScope s__law_at) := ⟨rfl, rfl, rfl, by decide +kernel, rfl, by decide +kernel, by decide +kernel⟩
theorem sc__law_mixed : FnScope N__law_mixed ["_law_cell", "_law_k"] (defScope s__law_mixed) := ⟨rfl, rfl, rfl, by decide +kernel, rfl, by decide +kernel, by decide +kernel⟩
theorem sc__law_names : FnScope N__law_names ["_law_cell", "_law_many"] (defScope s__law_names) := ⟨rfl, rfl, rfl, by decide +kernel, rfl, by decide +kernel, by decide +kernel⟩
theorem sc__law_breakers : FnScope N__law_breakers ["_law_n"] (defScope s__law_breakers) := ⟨rfl, rfl, rfl, by decide +kernel, rfl, by decide +kernel, by decide +kernel⟩
theorem sc__law_small_game : FnScope N__law_small_game ["_law_names_here", "_law_n"] (defScope s__law_small_game) := ⟨rfl, rfl, rfl, by decide +kernel, rfl, by decide +kernel, by decide +kernel⟩
theorem sc__law_games : FnScope N__law_games ["_law_script", "_law_names_here", "_law_most"] (defScope s__law_games) := ⟨rfl, rfl, rfl, by decide +kernel, rfl, by decide +kernel, by decide +kernel⟩
theorem sc__law_league : FnScope N__law_league ["_law_script", "_law_most"] (defScope s__law_league) := ⟨rfl, rfl, rfl, by decide +kernel, rfl, by decide +kernel, by decide +kernel⟩
theorem sc_Standing_init : FnScope N_Standing_init ["self"] (defScope s_Standing_init) := ⟨rfl, rfl, rfl, by decide +kernel, rfl, by decide +kernel, by decide +kernel⟩
theorem sc_Standing_take_game : FnScope N_Standing_take_game ["self", "points", "runs", "balls"] (defScope s_Standing_take_game) := ⟨rfl, rfl, rfl, by decide +kernel, rfl, by decide +kernel, by decide +kernel⟩
theorem sc_standings : FnScope N_standings ["points", "games"] (defScope s_standings) := ⟨rfl, rfl, rfl, by decide +kernel, rfl, by decide +kernel, by decide +kernel⟩
theorem sc_common_part : FnScope N_common_part ["one", "other"] (defScope s_common_part) := ⟨rfl, rfl, rfl, by decide +kernel, rfl, by decide +kernel, by decide +kernel⟩
theorem sc_lowest_terms : FnScope N_lowest_terms ["number", "parts"] (defScope s_lowest_terms) := ⟨rfl, rfl, rfl, by decide +kernel, rfl, by decide +kernel, by decide +kernel⟩
theorem sc_Standing_rate : FnScope N_Standing_rate ["self"] (defScope s_Standing_rate) := ⟨rfl, rfl, rfl, by decide +kernel, rfl, by decide +kernel, by decide +kernel⟩
theorem sc_goes_ahead : FnScope N_goes_ahead ["one", "other", "breakers"] (defScope s_goes_ahead) := ⟨rfl, rfl, rfl, by decide +kernel, rfl, by decide +kernel, by decide +kernel⟩
theorem sc_standing : FnScope N_standing ["points", "breakers", "games"] (defScope s_standing) := ⟨rfl, rfl, rfl, by decide +kernel, rfl, by decide +kernel, by decide +kernel⟩
theorem sc__law_due_points : FnScope N__law_due_points ["_law_points", "_law_games_here"] (defScope s__law_due_points) := ⟨rfl, rfl, rfl, by decide +kernel, rfl, by decide +kernel, by decide +kernel⟩
theorem sc__law_turned : FnScope N__law_turned ["_law_games_here"] (defScope s__law_turned) := ⟨rfl, rfl, rfl, by decide +kernel, rfl, by decide +kernel, by decide +kernel⟩
theorem sc_rate_of : FnScope N_rate_of ["games", "team"] (defScope s_rate_of) := ⟨rfl, rfl, rfl, by decide +kernel, rfl, by decide +kernel, by decide +kernel⟩
theorem sc__law_within : FnScope N__law_within ["_law_games_here", "_law_name"] (defScope s__law_within) := ⟨rfl, rfl, rfl, by decide +kernel, rfl, by decide +kernel, by decide +kernel⟩
theorem sc_law : FnScope N_law ["_law_script"] (defScope s_law) := ⟨rfl, rfl, rfl, by decide +kernel, rfl, by decide +kernel, by decide +kernel⟩
theorem bt_abs : bootBuiltins "abs" = some (.builtin "abs") := by decide +kernel
theorem bt_all : bootBuiltins "all" = some (.builtin "all") := by decide +kernel
theorem bt_enumerate : bootBuiltins "enumerate" = some (.type "enumerate") := by decide +kernel
theorem bt_int : bootBuiltins "int" = some (.type "int") := by decide +kernel
theorem bt_len : bootBuiltins "len" = some (.builtin "len") := by decide +kernel
theorem bt_max : bootBuiltins "max" = some (.builtin "max") := by decide +kernel
theorem bt_min : bootBuiltins "min" = some (.builtin "min") := by decide +kernel
theorem bt_range : bootBuiltins "range" = some (.type "range") := by decide +kernel
theorem bt_reversed : bootBuiltins "reversed" = some (.type "reversed") := by decide +kernel
theorem bt_sorted : bootBuiltins "sorted" = some (.builtin "sorted") := by decide +kernel
theorem bt_sum : bootBuiltins "sum" = some (.builtin "sum") := by decide +kernel
theorem bt_tuple : bootBuiltins "tuple" = some (.type "tuple") := by decide +kernel
section
variable {P : Program} {w : World} {K : PySem.W.Frag} {mg : Str → Option Value} {base h : Heap} (X : K.In h) (G : h.Ns mainGlobals mg) (c : He.SaysD fa fn K)
include X G c
theorem z_abs : mg "abs" = none := He.free_ok X G (c.fact 26 (f := .free "abs") rfl)
theorem z_all : mg "all" = none := He.free_ok X G (c.fact 27 (f := .free "all") rfl)
theorem z_enumerate : mg "enumerate" = none := He.free_ok X G (c.fact 28 (f := .free "enumerate") rfl)
theorem z_int : mg "int" = none := He.free_ok X G (c.fact 29 (f := .free "int") rfl)
theorem z_len : mg "len" = none := He.free_ok X G (c.fact 30 (f := .free "len") rfl)
theorem z_max : mg "max" = none := He.free_ok X G (c.fact 31 (f := .free "max") rfl)
theorem z_min : mg "min" = none := He.free_ok X G (c.fact 32 (f := .free "min") rfl)
theorem z_range : mg "range" = none := He.free_ok X G (c.fact 33 (f := .free "range") rfl)
theorem z_reversed : mg "reversed" = none := He.free_ok X G (c.fact 34 (f := .free "reversed") rfl)
theorem z_sorted : mg "sorted" = none := He.free_ok X G (c.fact 35 (f := .free "sorted") rfl)
theorem z_sum : mg "sum" = none := He.free_ok X G (c.fact 36 (f := .free "sum") rfl)
theorem z_tuple : mg "tuple" = none := He.free_ok X G (c.fact 37 (f := .free "tuple") rfl)
omit X G in
theorem clsT_Standing : ClsT K "Standing" stN := ⟨He.cls_ok (c.fact 18 (f := .cls "Standing") rfl), fun f hf => by
  simp only [stN, List.mem_cons, List.not_mem_nil, or_false] at hf
  rcases hf with rfl | rfl | rfl | rfl
  · exact He.noat_ok (c.fact 20 (f := .noat "Standing" "points") rfl)
  · exact He.noat_ok (c.fact 21 (f := .noat "Standing" "tallies") rfl)
  · exact He.noat_ok (c.fact 22 (f := .noat "Standing" "runs") rfl)
  · exact He.noat_ok (c.fact 23 (f := .noat "Standing" "faced") rfl)⟩
theorem ok__law_at : Fn P w K mg base CX0 (1) "_law_at" ["_law_script", "_law_k"] (spAt K) := by
  obtain ⟨fd, F⟩ := c.def_ 0 (d := mkD ("_law_at", none) "_law_at" "_law_at" s__law_at) rfl
  refine ⟨_, fd, He.glo_ok X G (c.fact 0 (f := .glo "_law_at") rfl), F.kp, F.bindsN (fun _ _ _ _ _ _ us hl => match us, hl with | [_, _], _ => rfl), F.ok sc__law_at (by walk_at "lenof") fun cdv A outer s H vs Q E hr h => ⟨t__law_at K, PSs.nox ?_, rd_at K vs H Q E h⟩⟩
  unfold t__law_at
  exact (pss_cons (ps_if (pt_cmpR o_lt (pv 1) (pe_callB c_lenQ rfl (z_len X G c) bt_len (pa_cons (pv 0) pa_nil)) (nomark _))
  (pss_one (ps_ret (pe_ix ix_list (pv 0) (pv 1) (fun _ _ => rfl))))
  pss_nil)
  (pss_one (ps_ret pe_int)))
theorem ok__law_mixed : Fn P w K mg base CX0 (1) "_law_mixed" ["_law_cell", "_law_k"] spMixed := by
  obtain ⟨fd, F⟩ := c.def_ 1 (d := mkD ("_law_mixed", none) "_law_mixed" "_law_mixed" s__law_mixed) rfl
  refine ⟨_, fd, He.glo_ok X G (c.fact 1 (f := .glo "_law_mixed") rfl), F.kp, F.bindsN (fun _ _ _ _ _ _ us hl => match us, hl with | [_, _], _ => rfl), F.ok sc__law_mixed (by walk_at "lenof") fun cdv A outer s H vs Q E hr h => ⟨t__law_mixed K, PSs.nox ?_, rd_mixed K vs H Q E h⟩⟩
  unfold t__law_mixed
  exact (pss_cons (ps_set (i := 2) sc__law_mixed.nd rfl (Or.inl rfl) (pe_op o_mod (pe_op o_mul (pe_op o_add (pe_op o_add (pe_op o_mod (pv 0) pe_int) (pe_op o_mul pe_int (pv 1))) pe_int) pe_int) pe_int))
  (pss_one (ps_ret (pe_op o_div (pe_op o_mod (pe_op o_mul (pv 2) (pe_op o_add (pe_op o_add (pe_op o_mod (pv 2) pe_int) (pe_op o_mul (pv 1) (pv 1))) pe_int)) pe_int) pe_int))))
theorem ok__law_names : Fn P w K mg base CX0 (2) "_law_names" ["_law_cell", "_law_many"] (spNames K) := by
  obtain ⟨fd, F⟩ := c.def_ 2 (d := mkD ("_law_names", none) "_law_names" "_law_names" s__law_names) rfl
  refine ⟨_, fd, He.glo_ok X G (c.fact 2 (f := .glo "_law_names") rfl), F.kp, F.bindsN (fun _ _ _ _ _ _ us hl => match us, hl with | [_, _], _ => rfl), F.ok sc__law_names (by walk_at "lenof") fun cdv A outer s H vs Q E hr h => ⟨t__law_names K, PSs.nox ?_, rd_names K vs H Q E h⟩⟩
  unfold t__law_names
  exact (pss_cons (ps_set (i := 2) sc__law_names.nd rfl (Or.inl rfl) pe_str)
  (pss_cons (ps_set (i := 3) sc__law_names.nd rfl (Or.inl rfl) (pe_fn (ok__law_mixed X G c) (hr.mono (by decide)) pass0 (pa_cons (pv 0) (pa_cons pe_int pa_nil))))
  (pss_cons (ps_set (i := 4) sc__law_names.nd rfl (Or.inl rfl) (pe_op o_mod (pv 3) pe_int))
  (pss_cons (ps_set (i := 5) sc__law_names.nd rfl (Or.inl rfl) (pe_op o_mulS (pe_op o_addS (pe_ix ix_str (pv 2) (pe_op o_mod (pe_op o_div (pv 3) pe_int) pe_int) (fun _ _ => rfl)) (pe_ix ix_str (pv 2) (pe_op o_mod (pe_op o_div (pv 3) pe_int) pe_int) (fun _ _ => rfl))) pe_int))
  (pss_cons (ps_set (i := 6) sc__law_names.nd rfl (Or.inl rfl) (pe_op o_mod (pe_op o_div (pv 3) pe_int) (pe_op o_add (pv 4) pe_int)))
  (pss_cons (ps_set (i := 7) sc__law_names.nd rfl (Or.inl rfl) (pe_op o_mod (pe_op o_div (pv 3) pe_int) pe_int))
  (pss_cons (ps_set (i := 8) sc__law_names.nd rfl (Or.inl rfl) (pe_lst pa_nil))
  (pss_cons (ps_for PassesOwn.never rfl (pi_range1 rfl (z_range X G c) (pa_cons (pv 1) pa_nil)) (pg_name (i := 9) sc__law_names.nd rfl (Or.inl rfl))
  (pss_cons (ps_set (i := 10) sc__law_names.nd rfl (Or.inl rfl) (pe_ix ix_str (pv 2) (pe_op o_mod (pe_op o_add (pv 7) (pv 9)) pe_int) (fun _ _ => rfl)))
  (pss_cons (ps_set (i := 11) sc__law_names.nd rfl (Or.inl rfl) (pe_op o_addS (pe_slice sl_str (pv 5) po_none (po_some (pv 6))) (pv 10)))
  (pss_one (ps_expr (pe_bm PySem.F.plainAttrs_list PySem.F.slot_list_append PySem.F.type_list_append mt_append (pv 8) (pa_cons (pe_op o_addS (pe_op o_addS (pv 11) (pe_slice sl_str (pv 5) (po_some (pv 6)) (po_some (pv 4)))) (pe_ix ix_str pe_str (pe_op o_div (pv 9) pe_int) (fun _ _ => rfl))) pa_nil)))))))
  (pss_one (ps_ret (pv 8)))))))))))
theorem ok__law_breakers : Fn P w K mg base CX0 (1) "_law_breakers" ["_law_n"] (spBreakers K) := by
  obtain ⟨fd, F⟩ := c.def_ 3 (d := mkD ("_law_breakers", none) "_law_breakers" "_law_breakers" s__law_breakers) rfl
  refine ⟨_, fd, He.glo_ok X G (c.fact 3 (f := .glo "_law_breakers") rfl), F.kp, F.bindsN (fun _ _ _ _ _ _ us hl => match us, hl with | [_], _ => rfl), F.ok sc__law_breakers (by walk_at "lenof") fun cdv A outer s H vs Q E hr h => ⟨t__law_breakers K, PSs.nox ?_, rd_breakers K vs H Q E h⟩⟩
  unfold t__law_breakers
  exact (pss_cons (ps_set (i := 1) sc__law_breakers.nd rfl (Or.inl rfl) (pe_lst (pa_cons pe_str (pa_cons pe_str (pa_cons pe_str (pa_cons pe_str pa_nil))))))
  (pss_cons (ps_set (i := 2) sc__law_breakers.nd rfl (Or.inl rfl) (pe_lst pa_nil))
  (pss_cons (ps_for PassesOwn.never rfl (pi_range1 rfl (z_range X G c) (pa_cons (pe_op o_add pe_int (pe_op o_mod (pv 0) pe_int)) pa_nil)) (pg_name (i := 3) sc__law_breakers.nd rfl (Or.inl rfl))
  (pss_cons (ps_expr (pe_bm PySem.F.plainAttrs_list PySem.F.slot_list_append PySem.F.type_list_append mt_append (pv 2) (pa_cons (pe_bm PySem.F.plainAttrs_list PySem.F.slot_list_pop PySem.F.type_list_pop mt_popAt (pv 1) (pa_cons (pe_op o_mod (pe_op o_div (pv 0) pe_int) (pe_callB c_lenQ rfl (z_len X G c) bt_len (pa_cons (pv 1) pa_nil))) pa_nil)) pa_nil)))
  (pss_one (ps_set (i := 0) sc__law_breakers.nd rfl (Or.inl rfl) (pe_op o_div (pv 0) pe_int)))))
  (pss_one (ps_ret (pv 2))))))
theorem ok__law_small_game : Fn P w K mg base CX0 (1) "_law_small_game" ["_law_names_here", "_law_n"] (spSmall K) := by
  obtain ⟨fd, F⟩ := c.def_ 4 (d := mkD ("_law_small_game", none) "_law_small_game" "_law_small_game" s__law_small_game) rfl
  refine ⟨_, fd, He.glo_ok X G (c.fact 4 (f := .glo "_law_small_game") rfl), F.kp, F.bindsN (fun _ _ _ _ _ _ us hl => match us, hl with | [_, _], _ => rfl), F.ok sc__law_small_game (by walk_at "lenof") fun cdv A outer s H vs Q E hr h => ⟨t__law_small_game K, PSs.nox ?_, rd_small K vs H Q E h⟩⟩
  unfold t__law_small_game
  exact (pss_cons (ps_set (i := 2) sc__law_small_game.nd rfl (Or.inl rfl) (pe_op o_mod (pv 1) (pe_callB c_lenQ rfl (z_len X G c) bt_len (pa_cons (pv 0) pa_nil))))
  (pss_cons (ps_set (i := 3) sc__law_small_game.nd rfl (Or.inl rfl) (pe_op o_mod (pe_op o_add (pe_op o_add (pv 2) pe_int) (pe_op o_mod (pe_op o_div (pv 1) pe_int) (pe_op o_sub (pe_callB c_lenQ rfl (z_len X G c) bt_len (pa_cons (pv 0) pa_nil)) pe_int))) (pe_callB c_lenQ rfl (z_len X G c) bt_len (pa_cons (pv 0) pa_nil))))
  (pss_cons (ps_set (i := 4) sc__law_small_game.nd rfl (Or.inl rfl) (pe_ix ix_list (pe_lst (pa_cons (pe_op o_mod (pe_op o_div (pv 1) pe_int) pe_int) (pa_cons (pe_op o_mod (pe_op o_div (pv 1) pe_int) pe_int) (pa_cons pe_int (pa_cons pe_int pa_nil))))) (pe_op o_mod (pe_op o_div (pv 1) pe_int) pe_int) (fun _ _ => rfl)))
  (pss_cons (ps_set (i := 5) sc__law_small_game.nd rfl (Or.inl rfl) (pe_ix ix_list (pe_lst (pa_cons pe_int (pa_cons pe_int (pa_cons pe_int (pa_cons pe_int pa_nil))))) (pe_op o_mod (pe_op o_div (pv 1) pe_int) pe_int) (fun _ _ => rfl)))
  (pss_cons (ps_set (i := 6) sc__law_small_game.nd rfl (Or.inl rfl) (pe_ix ix_list (pe_lst (pa_cons (pv 4) (pa_cons (pe_op o_mod (pe_op o_div (pv 1) pe_int) pe_int) (pa_cons (pe_op o_mod (pe_op o_div (pv 1) pe_int) pe_int) pa_nil)))) (pe_op o_mod (pe_op o_div (pv 1) pe_int) pe_int) (fun _ _ => rfl)))
  (pss_one (ps_ret (pe_tup (pa_cons (pe_ix ix_list (pv 0) (pv 2) (fun _ _ => rfl)) (pa_cons (pv 4) (pa_cons (pv 5) (pa_cons (pe_ix ix_list (pv 0) (pv 3) (fun _ _ => rfl)) (pa_cons (pv 6) (pa_cons (pe_ix ix_list (pe_lst (pa_cons (pv 5) (pa_cons pe_int (pa_cons pe_int (pa_cons pe_int pa_nil))))) (pe_op o_mod (pe_op o_div (pv 1) pe_int) pe_int) (fun _ _ => rfl)) pa_nil))))))))))))))
theorem ok__law_games : Fn P w K mg base CX0 (2) "_law_games" ["_law_script", "_law_names_here", "_law_most"] (spGames K) := by
  obtain ⟨fd, F⟩ := c.def_ 5 (d := mkD ("_law_games", none) "_law_games" "_law_games" s__law_games) rfl
  refine ⟨_, fd, He.glo_ok X G (c.fact 5 (f := .glo "_law_games") rfl), F.kp, F.bindsN (fun _ _ _ _ _ _ us hl => match us, hl with | [_, _, _], _ => rfl), F.ok sc__law_games (by walk_at "lenof") fun cdv A outer s H vs Q E hr h => ⟨t__law_games K, PSs.nox ?_, rd_games K vs H Q E h⟩⟩
  unfold t__law_games
  exact (pss_cons (ps_set (i := 3) sc__law_games.nd rfl (Or.inl rfl) (pe_lst pa_nil))
  (pss_cons (ps_if (pt_cmpR op_eq (pe_op o_mod (pe_fn (ok__law_at X G c) (hr.mono (by decide)) pass0 (pa_cons (pv 0) (pa_cons pe_int pa_nil))) pe_int) pe_int (nomark _))
  (pss_cons (ps_for PassesOwn.never rfl (pi_enum rfl (z_enumerate X G c) (pa_cons (pe_slice sl_list (pe_slice sl_list (pv 0) (po_some pe_int) po_none) po_none (po_some (pv 2))) pa_nil)) (pg_tup rfl (pgs_cons (pg_name (i := 4) sc__law_games.nd rfl (Or.inl rfl)) (pgs_cons (pg_name (i := 5) sc__law_games.nd rfl (Or.inl rfl)) pgs_nil)))
  (pss_one (ps_expr (pe_bm PySem.F.plainAttrs_list PySem.F.slot_list_append PySem.F.type_list_append mt_append (pv 3) (pa_cons (pe_fn (ok__law_small_game X G c) (hr.mono (by decide)) pass0 (pa_cons (pv 1) (pa_cons (pe_fn (ok__law_mixed X G c) (hr.mono (by decide)) pass0 (pa_cons (pe_fn (ok__law_mixed X G c) (hr.mono (by decide)) pass0 (pa_cons (pv 5) (pa_cons (pv 4) pa_nil))) (pa_cons (pe_op o_add (pv 4) pe_int) pa_nil))) pa_nil))) pa_nil)))))
  (pss_one (ps_ret (pv 3))))
  pss_nil)
  (pss_cons (ps_for PassesOwn.never rfl (pi_list (pe_slice sl_list (pv 0) (po_some pe_int) po_none)) (pg_name (i := 5) sc__law_games.nd rfl (Or.inl rfl))
  (pss_cons (ps_set (i := 6) sc__law_games.nd rfl (Or.inl rfl) (pv 5))
  (pss_one (ps_while PassesOwn.never (PW.pt (pw_and (pt_cmpR op_ne (pv 6) pe_int (nomark _)) (pw_and (pt_cmpR op_ne (pv 6) (pe_un u_neg pe_int) (nomark _)) (pw_and1 (pt_cmpR o_lt (pe_callB c_lenQ rfl (z_len X G c) bt_len (pa_cons (pv 3) pa_nil)) (pv 2) (nomark _))))))
  (pss_cons (ps_set (i := 7) sc__law_games.nd rfl (Or.inl rfl) (pe_op o_mod (pv 6) (pe_callB c_lenQ rfl (z_len X G c) bt_len (pa_cons (pv 1) pa_nil))))
  (pss_cons (ps_set (i := 8) sc__law_games.nd rfl (Or.inl rfl) (pe_op o_mod (pe_op o_add (pe_op o_add (pv 7) pe_int) (pe_op o_mod (pe_op o_div (pv 6) pe_int) (pe_op o_sub (pe_callB c_lenQ rfl (z_len X G c) bt_len (pa_cons (pv 1) pa_nil)) pe_int))) (pe_callB c_lenQ rfl (z_len X G c) bt_len (pa_cons (pv 1) pa_nil))))
  (pss_cons (ps_set (i := 9) sc__law_games.nd rfl (Or.inl rfl) (pe_tup (pa_cons (pe_ix ix_list (pv 1) (pv 7) (fun _ _ => rfl)) (pa_cons (pe_op o_mod (pe_op o_div (pv 6) pe_int) pe_int) (pa_cons (pe_op o_add pe_int (pe_op o_mod (pe_op o_div (pv 6) pe_int) pe_int)) pa_nil)))))
  (pss_cons (ps_expr (pe_bm PySem.F.plainAttrs_list PySem.F.slot_list_append PySem.F.type_list_append mt_append (pv 3) (pa_cons (pe_op op_catA (pv 9) (pe_tup (pa_cons (pe_ix ix_list (pv 1) (pv 8) (fun _ _ => rfl)) (pa_cons (pe_op o_mod (pe_op o_div (pv 6) pe_int) pe_int) (pa_cons (pe_op o_add pe_int (pe_op o_mod (pe_op o_div (pv 6) (pe_op o_mul pe_int (pe_op o_pow pe_int pe_int))) pe_int)) pa_nil))))) pa_nil)))
  (pss_one (ps_set (i := 6) sc__law_games.nd rfl (Or.inl rfl) (pe_op o_div (pv 6) (pe_op o_mul pe_int (pe_op o_pow pe_int pe_int)))))))))))))
  (pss_one (ps_ret (pv 3))))))
theorem ok__law_league : Fn P w K mg base CX0 (3) "_law_league" ["_law_script", "_law_most"] (spLeague K) := by
  obtain ⟨fd, F⟩ := c.def_ 6 (d := mkD ("_law_league", none) "_law_league" "_law_league" s__law_league) rfl
  refine ⟨_, fd, He.glo_ok X G (c.fact 6 (f := .glo "_law_league") rfl), F.kp, F.bindsN (fun _ _ _ _ _ _ us hl => match us, hl with | [_, _], _ => rfl), F.ok sc__law_league (by walk_at "lenof") fun cdv A outer s H vs Q E hr h => ⟨t__law_league K, PSs.nox ?_, rd_league K vs H Q E h⟩⟩
  unfold t__law_league
  exact (pss_cons (ps_set (i := 2) sc__law_league.nd rfl (Or.inl rfl) (pe_op o_div (pe_fn (ok__law_at X G c) (hr.mono (by decide)) pass0 (pa_cons (pv 0) (pa_cons pe_int pa_nil))) pe_int))
  (pss_cons (ps_set (i := 3) sc__law_league.nd rfl (Or.inl rfl) (pe_fn (ok__law_names X G c) (hr.mono (by decide)) pass0 (pa_cons (pe_fn (ok__law_at X G c) (hr.mono (by decide)) pass0 (pa_cons (pv 0) (pa_cons pe_int pa_nil))) (pa_cons (pe_op o_add pe_int (pe_op o_mod (pv 2) pe_int)) pa_nil))))
  (pss_cons (ps_set (i := 4) sc__law_league.nd rfl (Or.inl rfl) (pe_tup (pa_cons (pe_ix ix_list (pe_lst (pa_cons pe_int (pa_cons pe_int (pa_cons pe_int (pa_cons (pe_op o_mod (pe_op o_div (pv 2) pe_int) pe_int) pa_nil))))) (pe_op o_mod (pe_op o_div (pv 2) pe_int) pe_int) (fun _ _ => rfl)) (pa_cons (pe_op o_mod (pe_op o_div (pv 2) pe_int) pe_int) (pa_cons (pe_ix ix_list (pe_lst (pa_cons pe_int (pa_cons (pe_op o_mod (pe_op o_div (pv 2) pe_int) pe_int) pa_nil))) (pe_op o_mod (pe_op o_div (pv 2) pe_int) pe_int) (fun _ _ => rfl)) pa_nil)))))
  (pss_one (ps_ret (pe_tup (pa_cons (pv 4) (pa_cons (pe_fn (ok__law_breakers X G c) (hr.mono (by decide)) pass0 (pa_cons (pe_op o_div (pv 2) pe_int) pa_nil)) (pa_cons (pe_fn (ok__law_games X G c) (hr.mono (by decide)) pass0 (pa_cons (pv 0) (pa_cons (pv 3) (pa_cons (pv 1) pa_nil)))) pa_nil)))))))))
theorem ok_Standing_init : Ini P w K mg base CX0 (1) "Standing" (He.ga K "Standing") ["self"] (spStInit K) := by
  obtain ⟨fd, F⟩ := c.def_ 7 (d := mkD ("Standing", some "__init__") "__init__" "Standing.__init__" s_Standing_init) rfl
  refine ⟨_, fd, He.glo_ok X G (c.fact 17 (f := .glo "Standing") rfl), He.mkr_ok (c.fact 19 (f := .mkr "Standing") rfl), F.bindsN (fun _ _ _ _ _ _ us hl => match us, hl with | [_], _ => rfl), F.ok sc_Standing_init (by walk_at "lenof") fun cdv A outer s H vs Q E hr h => ⟨t_Standing_init K, PSs.nox ?_, rd_stInit (clsT_Standing c) vs H Q E h⟩⟩
  unfold t_Standing_init
  exact (pss_cons (ps_fld (pv 0) pe_int rfl)
  (pss_cons (ps_fld (pv 0) (pe_lst (pa_cons pe_int (pa_cons pe_int (pa_cons pe_int pa_nil)))) rfl)
  (pss_cons (ps_fld (pv 0) (pe_lst (pa_cons pe_int (pa_cons pe_int pa_nil))) rfl)
  (pss_one (ps_fld (pv 0) (pe_lst (pa_cons pe_int (pa_cons pe_int pa_nil))) rfl)))))
theorem ok_Standing_take_game : Me P w K mg base CX0 (1) (He.ga K "Standing") "take_game" ["self", "points", "runs", "balls"] (spTake K) := by
  obtain ⟨fd, F⟩ := c.def_ 8 (d := mkD ("Standing", some "take_game") "take_game" "Standing.take_game" s_Standing_take_game) rfl
  refine ⟨_, fd, He.cls_ok (c.fact 18 (f := .cls "Standing") rfl), He.meth_ok (c.fact 24 (f := .meth "Standing" "take_game") rfl), F.bindsN (fun _ _ _ _ _ _ us hl => match us, hl with | [_, _, _, _], _ => rfl), F.ok sc_Standing_take_game (by walk_at "lenof") fun cdv A outer s H vs Q E hr h => ⟨t_Standing_take_game K, PSs.nox ?_, rd_take (clsT_Standing c) vs H Q E h⟩⟩
  unfold t_Standing_take_game
  exact (pss_cons (ps_set (i := 4) sc_Standing_take_game.nd rfl (Or.inl rfl) pe_int)
  (Evl.pss_cut (ps_if (pt_cmpR op_ne (pe_ix ix_list (pv 2) pe_int (fun _ _ => rfl)) (pe_ix ix_list (pv 2) pe_int (fun _ _ => rfl)) (nomark _))
  (pss_one (ps_set (i := 4) sc_Standing_take_game.nd rfl (Or.inl rfl) (pe_op o_mul pe_int (pe_callTy c_int rfl (z_int X G c) bt_int (pa_cons (pe_cmpR o_lt (pe_ix ix_list (pv 2) pe_int (fun _ _ => rfl)) (pe_ix ix_list (pv 2) pe_int (fun _ _ => rfl)) (nomark _)) pa_nil)))))
  pss_nil)
  (pss_cons (ps_augS (pe_fld (pv 0) rfl) (pv 4) get_list pe_int ip_add set_list)
  (pss_cons (ps_fldaug (pv 0) (pe_ix ix_tup (pv 1) (pv 4) (fun _ _ => rfl)) in_add)
  (pss_one (ps_for PassesOwn.never rfl (pi_range1 rfl (z_range X G c) (pa_cons pe_int pa_nil)) (pg_name (i := 5) sc_Standing_take_game.nd rfl (Or.inl rfl))
  (pss_cons (ps_augS (pe_fld (pv 0) rfl) (pv 5) get_list (pe_ix ix_list (pv 2) (pv 5) (fun _ _ => rfl)) ip_add set_list)
  (pss_one (ps_augS (pe_fld (pv 0) rfl) (pv 5) get_list (pe_ix ix_list (pv 3) (pv 5) (fun _ _ => rfl)) ip_add set_list)))))))))
theorem ok_standings : Fn P w K mg base CX0 (3) "standings" ["points", "games"] (spStandings K) := by
  obtain ⟨fd, F⟩ := c.def_ 9 (d := mkD ("standings", none) "standings" "standings" s_standings) rfl
  refine ⟨_, fd, He.glo_ok X G (c.fact 7 (f := .glo "standings") rfl), F.kp, F.bindsN (fun _ _ _ _ _ _ us hl => match us, hl with | [_, _], _ => rfl), F.ok sc_standings (by walk_at "lenof") fun cdv A outer s H vs Q E hr h => ⟨t_standings K, PSs.nox ?_, rd_standings (clsT_Standing c) vs H Q E h⟩⟩
  unfold t_standings
  exact (pss_cons (ps_set (i := 2) sc_standings.nd rfl (Or.inl rfl) pe_dnewK)
  (pss_cons (ps_for PassesOwn.never rfl (pi_list (pv 1)) (pg_tup rfl (pgs_cons (pg_name (i := 3) sc_standings.nd rfl (Or.inl rfl)) (pgs_cons (pg_name (i := 4) sc_standings.nd rfl (Or.inl rfl)) (pgs_cons (pg_name (i := 5) sc_standings.nd rfl (Or.inl rfl)) (pgs_cons (pg_name (i := 6) sc_standings.nd rfl (Or.inl rfl)) (pgs_cons (pg_name (i := 7) sc_standings.nd rfl (Or.inl rfl)) (pgs_cons (pg_name (i := 8) sc_standings.nd rfl (Or.inl rfl)) pgs_nil)))))))
  (pss_cons (ps_expr (pe_me (ok_Standing_take_game X G c) (hr.mono (by decide)) pass0 (pe_dsetd (pv 2) (pv 3) (pe_mk0 (ok_Standing_init X G c) (hr.mono (by decide)) pass0) ⟨rfl, rfl, rfl, rfl⟩) (pa_cons (pv 0) (pa_cons (pe_lst (pa_cons (pv 4) (pa_cons (pv 7) pa_nil))) (pa_cons (pe_lst (pa_cons (pv 5) (pa_cons (pv 8) pa_nil))) pa_nil)))))
  (pss_one (ps_expr (pe_me (ok_Standing_take_game X G c) (hr.mono (by decide)) pass0 (pe_dsetd (pv 2) (pv 6) (pe_mk0 (ok_Standing_init X G c) (hr.mono (by decide)) pass0) ⟨rfl, rfl, rfl, rfl⟩) (pa_cons (pv 0) (pa_cons (pe_lst (pa_cons (pv 7) (pa_cons (pv 4) pa_nil))) (pa_cons (pe_lst (pa_cons (pv 8) (pa_cons (pv 5) pa_nil))) pa_nil))))))))
  (pss_one (ps_ret (pv 2)))))
theorem ok_common_part : Fn P w K mg base CX0 (1) "common_part" ["one", "other"] spCommon := by
  obtain ⟨fd, F⟩ := c.def_ 10 (d := mkD ("common_part", none) "common_part" "common_part" s_common_part) rfl
  refine ⟨_, fd, He.glo_ok X G (c.fact 8 (f := .glo "common_part") rfl), F.kp, F.bindsN (fun _ _ _ _ _ _ us hl => match us, hl with | [_, _], _ => rfl), F.ok sc_common_part (by walk_at "lenof") fun cdv A outer s H vs Q E hr h => ⟨t_common_part K, PSs.nox ?_, rd_common K vs H Q E h⟩⟩
  unfold t_common_part
  exact (pss_cons (ps_while PassesOwn.never (pt_cmpR o_gt (pv 1) pe_int (nomark _))
  (pss_one (ps_par (i := 0) (j := 1) rfl sc_common_part.nd rfl rfl (by decide) rfl rfl (pa_cons (pv 1) (pa_cons (pe_op o_mod (pv 0) (pv 1)) pa_nil)) (by rfl))))
  (pss_one (ps_ret (pv 0))))
theorem ok_lowest_terms : Fn P w K mg base CX0 (2) "lowest_terms" ["number", "parts"] spLowest := by
  obtain ⟨fd, F⟩ := c.def_ 11 (d := mkD ("lowest_terms", none) "lowest_terms" "lowest_terms" s_lowest_terms) rfl
  refine ⟨_, fd, He.glo_ok X G (c.fact 9 (f := .glo "lowest_terms") rfl), F.kp, F.bindsN (fun _ _ _ _ _ _ us hl => match us, hl with | [_, _], _ => rfl), F.ok sc_lowest_terms (by walk_at "lenof") fun cdv A outer s H vs Q E hr h => ⟨t_lowest_terms K, PSs.nox ?_, rd_lowest K vs H Q E h⟩⟩
  unfold t_lowest_terms
  exact (pss_cons (ps_set (i := 2) sc_lowest_terms.nd rfl (Or.inl rfl) (pe_fn (ok_common_part X G c) (hr.mono (by decide)) pass0 (pa_cons (pe_callB c_abs rfl (z_abs X G c) bt_abs (pa_cons (pv 0) pa_nil)) (pa_cons (pv 1) pa_nil))))
  (pss_one (ps_ret (pe_tup (pa_cons (pe_op o_div (pv 0) (pv 2)) (pa_cons (pe_op o_div (pv 1) (pv 2)) pa_nil))))))
theorem ok_Standing_rate : Me P w K mg base CX0 (3) (He.ga K "Standing") "rate" ["self"] (spRate K) := by
  obtain ⟨fd, F⟩ := c.def_ 12 (d := mkD ("Standing", some "rate") "rate" "Standing.rate" s_Standing_rate) rfl
  refine ⟨_, fd, He.cls_ok (c.fact 18 (f := .cls "Standing") rfl), He.meth_ok (c.fact 25 (f := .meth "Standing" "rate") rfl), F.bindsN (fun _ _ _ _ _ _ us hl => match us, hl with | [_], _ => rfl), F.ok sc_Standing_rate (by walk_at "lenof") fun cdv A outer s H vs Q E hr h => ⟨t_Standing_rate K, PSs.nox ?_, rd_rate (clsT_Standing c) vs H Q E h⟩⟩
  unfold t_Standing_rate
  exact (pss_cons (ps_set (i := 1) sc_Standing_rate.nd rfl (Or.inl rfl) (pe_op o_sub (pe_op o_mul (pe_ix ix_list (pe_fld (pv 0) rfl) pe_int (fun _ _ => rfl)) (pe_ix ix_list (pe_fld (pv 0) rfl) pe_int (fun _ _ => rfl))) (pe_op o_mul (pe_ix ix_list (pe_fld (pv 0) rfl) pe_int (fun _ _ => rfl)) (pe_ix ix_list (pe_fld (pv 0) rfl) pe_int (fun _ _ => rfl)))))
  (pss_one (ps_ret (pe_fn (ok_lowest_terms X G c) (hr.mono (by decide)) pass0 (pa_cons (pv 1) (pa_cons (pe_op o_mul (pe_ix ix_list (pe_fld (pv 0) rfl) pe_int (fun _ _ => rfl)) (pe_ix ix_list (pe_fld (pv 0) rfl) pe_int (fun _ _ => rfl))) pa_nil))))))
theorem ok_goes_ahead : Fn P w K mg base CX0 (4) "goes_ahead" ["one", "other", "breakers"] (spGoes K) := by
  obtain ⟨fd, F⟩ := c.def_ 13 (d := mkD ("goes_ahead", none) "goes_ahead" "goes_ahead" s_goes_ahead) rfl
  refine ⟨_, fd, He.glo_ok X G (c.fact 10 (f := .glo "goes_ahead") rfl), F.kp, F.bindsN (fun _ _ _ _ _ _ us hl => match us, hl with | [_, _, _], _ => rfl), F.ok sc_goes_ahead (by walk_at "lenof") fun cdv A outer s H vs Q E hr h => ⟨t_goes_ahead K, PSs.nox ?_, rd_goes (clsT_Standing c) vs H Q E h⟩⟩
  unfold t_goes_ahead
  exact (pss_cons (ps_if (pt_cmpR op_ne (pe_fld (pe_ix ix_tup (pv 0) pe_int (fun _ _ => rfl)) rfl) (pe_fld (pe_ix ix_tup (pv 1) pe_int (fun _ _ => rfl)) rfl) (nomark _))
  (pss_one (ps_ret (pe_cmpR o_gt (pe_fld (pe_ix ix_tup (pv 0) pe_int (fun _ _ => rfl)) rfl) (pe_fld (pe_ix ix_tup (pv 1) pe_int (fun _ _ => rfl)) rfl) (nomark _))))
  pss_nil)
  (pss_cons (ps_for PassesOwn.never rfl (pi_list (pv 2)) (pg_name (i := 3) sc_goes_ahead.nd rfl (Or.inl rfl))
  (pss_cons (ps_if (pt_cmpR op_eq (pv 3) pe_str (nomark _))
  (pss_one (ps_ret (pe_cmpR o_ltS (pe_ix ix_tup (pv 0) pe_int (fun _ _ => rfl)) (pe_ix ix_tup (pv 1) pe_int (fun _ _ => rfl)) (nomark _))))
  pss_nil)
  (pss_cons (ps_set (i := 4) sc_goes_ahead.nd rfl (Or.inl rfl) (pe_ix ix_list (pe_fld (pe_ix ix_tup (pv 0) pe_int (fun _ _ => rfl)) rfl) pe_int (fun _ _ => rfl)))
  (pss_cons (ps_set (i := 5) sc_goes_ahead.nd rfl (Or.inl rfl) (pe_ix ix_list (pe_fld (pe_ix ix_tup (pv 1) pe_int (fun _ _ => rfl)) rfl) pe_int (fun _ _ => rfl)))
  (Evl.pss_cut (ps_if (pt_cmpR op_eq (pv 3) pe_str (nomark _))
  (pss_cons (ps_set (i := 4) sc_goes_ahead.nd rfl (Or.inl rfl) (pe_ix ix_list (pe_fld (pe_ix ix_tup (pv 0) pe_int (fun _ _ => rfl)) rfl) pe_int (fun _ _ => rfl)))
  (pss_one (ps_set (i := 5) sc_goes_ahead.nd rfl (Or.inl rfl) (pe_ix ix_list (pe_fld (pe_ix ix_tup (pv 1) pe_int (fun _ _ => rfl)) rfl) pe_int (fun _ _ => rfl)))))
  (pss_one (ps_if (pt_cmpR op_eq (pv 3) pe_str (nomark _))
  (pss_cons (ps_set (i := 4) sc_goes_ahead.nd rfl (Or.inl rfl) (pe_op o_mul (pe_ix ix_tup (pe_me0 (ok_Standing_rate X G c) (hr.mono (by decide)) pass0 (pe_ix ix_tup (pv 0) pe_int (fun _ _ => rfl))) pe_int (fun _ _ => rfl)) (pe_ix ix_tup (pe_me0 (ok_Standing_rate X G c) (hr.mono (by decide)) pass0 (pe_ix ix_tup (pv 1) pe_int (fun _ _ => rfl))) pe_int (fun _ _ => rfl))))
  (pss_one (ps_set (i := 5) sc_goes_ahead.nd rfl (Or.inl rfl) (pe_op o_mul (pe_ix ix_tup (pe_me0 (ok_Standing_rate X G c) (hr.mono (by decide)) pass0 (pe_ix ix_tup (pv 1) pe_int (fun _ _ => rfl))) pe_int (fun _ _ => rfl)) (pe_ix ix_tup (pe_me0 (ok_Standing_rate X G c) (hr.mono (by decide)) pass0 (pe_ix ix_tup (pv 0) pe_int (fun _ _ => rfl))) pe_int (fun _ _ => rfl))))))
  pss_nil)))
  (pss_one (ps_if (pt_cmpR op_ne (pv 4) (pv 5) (nomark _))
  (pss_one (ps_ret (pe_cmpR o_gt (pv 4) (pv 5) (nomark _))))
  pss_nil)))))))
  (pss_one (ps_ret pe_bl))))
theorem ok_standing : Fn P w K mg base CX0 (5) "standing" ["points", "breakers", "games"] (spStanding K) := by
  obtain ⟨fd, F⟩ := c.def_ 14 (d := mkD ("standing", none) "standing" "standing" s_standing) rfl
  refine ⟨_, fd, He.glo_ok X G (c.fact 11 (f := .glo "standing") rfl), F.kp, F.bindsN (fun _ _ _ _ _ _ us hl => match us, hl with | [_, _, _], _ => rfl), F.ok sc_standing (by walk_at "lenof") fun cdv A outer s H vs Q E hr h => ⟨t_standing K, PSs.nox ?_, rd_standing (clsT_Standing c) vs H Q E h⟩⟩
  unfold t_standing
  exact (pss_cons (ps_set (i := 3) sc_standing.nd rfl (Or.inl rfl) (pe_lst pa_nil))
  (pss_cons (ps_for PassesOwn.never rfl (pi_items (pe_frz (pe_fn (ok_standings X G c) (hr.mono (by decide)) pass0 (pa_cons (pv 0) (pa_cons (pv 2) pa_nil))))) (pg_tup rfl (pgs_cons (pg_name (i := 4) sc_standing.nd rfl (Or.inl rfl)) (pgs_cons (pg_name (i := 5) sc_standing.nd rfl (Or.inl rfl)) pgs_nil)))
  (pss_cons (ps_set (i := 6) sc_standing.nd rfl (Or.inl rfl) (pe_callB c_lenQ rfl (z_len X G c) bt_len (pa_cons (pv 3) pa_nil)))
  (pss_cons (ps_while PassesOwn.never (PW.pt (pw_and (pt_cmpR o_gt (pv 6) pe_int (nomark _)) (pw_and1 (pt_val (pe_fn (ok_goes_ahead X G c) (hr.mono (by decide)) pass0 (pa_cons (pe_tup (pa_cons (pv 4) (pa_cons (pv 5) pa_nil))) (pa_cons (pe_ix ix_list (pv 3) (pe_op o_sub (pv 6) pe_int) (fun _ _ => rfl)) (pa_cons (pv 1) pa_nil))))))))
  (pss_one (ps_aug (i := 6) sc_standing.nd rfl (Or.inl rfl) pe_int ip_sub)))
  (pss_one (ps_expr (pe_bm PySem.F.plainAttrs_list PySem.F.slot_list_insert PySem.F.type_list_insert mt_insert_ (pv 3) (pa_cons (pv 6) (pa_cons (pe_tup (pa_cons (pv 4) (pa_cons (pv 5) pa_nil))) pa_nil))))))))
  (pss_one (ps_ret (pe_lc (own := [("team", 4), ("mine", 5)]) (g := (gTup K 2 (gCons (gName 4) (gCons (gName 5) gNil)))) (tt := tYes) (by rfl) sc_standing.nd (pi_list (pv 3)) (blkOk_by (own := [("team", 4), ("mine", 5)]) (N := N_standing) (sc := defScope s_standing) (by decide +kernel)) (fun _ _ _ _ _ => (pg_tup rfl (pgs_cons (pg_name (i := 4) sc_standing.nd rfl (Or.inl rfl)) (pgs_cons (pg_name (i := 5) sc_standing.nd rfl (Or.inl rfl)) pgs_nil)))) (fun _ _ _ _ _ => pts_nil) (fun _ _ _ _ _ => (pe_op op_catA (pe_op op_catA (pe_tup (pa_cons (pv 4) (pa_cons (pe_fld (pv 5) rfl) pa_nil))) (pe_callTy c_tuple rfl (z_tuple X G c) bt_tuple (pa_cons (pe_fld (pv 5) rfl) pa_nil))) (pe_tup (pa_cons (pe_me0 (ok_Standing_rate X G c) (hr.mono (by decide)) pass0 (pv 5)) pa_nil)))))))))
theorem ok__law_due_points : Fn P w K mg base CX0 (1) "_law_due_points" ["_law_points", "_law_games_here"] (spDuePts K) := by
  obtain ⟨fd, F⟩ := c.def_ 15 (d := mkD ("_law_due_points", none) "_law_due_points" "_law_due_points" s__law_due_points) rfl
  refine ⟨_, fd, He.glo_ok X G (c.fact 12 (f := .glo "_law_due_points") rfl), F.kp, F.bindsN (fun _ _ _ _ _ _ us hl => match us, hl with | [_, _], _ => rfl), F.ok sc__law_due_points (by walk_at "lenof") fun cdv A outer s H vs Q E hr h => ⟨t__law_due_points K, PSs.nox ?_, rd_duePts K vs H Q E h⟩⟩
  unfold t__law_due_points
  exact (pss_cons (ps_set (i := 2) sc__law_due_points.nd rfl (Or.inl rfl) pe_int)
  (pss_cons (ps_for PassesOwn.never rfl (pi_list (pv 1)) (pg_tup rfl (pgs_cons (pg_name (i := 3) sc__law_due_points.nd rfl (Or.inl rfl)) (pgs_cons (pg_name (i := 4) sc__law_due_points.nd rfl (Or.inl rfl)) (pgs_cons (pg_name (i := 5) sc__law_due_points.nd rfl (Or.inl rfl)) (pgs_cons (pg_name (i := 6) sc__law_due_points.nd rfl (Or.inl rfl)) (pgs_cons (pg_name (i := 7) sc__law_due_points.nd rfl (Or.inl rfl)) (pgs_cons (pg_name (i := 8) sc__law_due_points.nd rfl (Or.inl rfl)) pgs_nil)))))))
  (pss_one (ps_set (i := 2) sc__law_due_points.nd rfl (Or.inl rfl) (pe_op o_add (pv 2) (pe_ifExp (pt_cmpR op_eq (pv 4) (pv 7) (nomark _)) (pe_op o_mul pe_int (pe_ix ix_tup (pv 0) pe_int (fun _ _ => rfl))) (pe_op o_add (pe_ix ix_tup (pv 0) pe_int (fun _ _ => rfl)) (pe_ix ix_tup (pv 0) pe_int (fun _ _ => rfl))))))))
  (pss_one (ps_ret (pv 2)))))
theorem ok__law_turned : Fn P w K mg base CX0 (1) "_law_turned" ["_law_games_here"] (spTurned K) := by
  obtain ⟨fd, F⟩ := c.def_ 16 (d := mkD ("_law_turned", none) "_law_turned" "_law_turned" s__law_turned) rfl
  refine ⟨_, fd, He.glo_ok X G (c.fact 13 (f := .glo "_law_turned") rfl), F.kp, F.bindsN (fun _ _ _ _ _ _ us hl => match us, hl with | [_], _ => rfl), F.ok sc__law_turned (by walk_at "lenof") fun cdv A outer s H vs Q E hr h => ⟨t__law_turned K, PSs.nox ?_, rd_turned K vs H Q E h⟩⟩
  unfold t__law_turned
  exact (pss_one (ps_ret (pe_lc (own := [("_law_one", 1), ("_law_r", 2), ("_law_n", 3), ("_law_other", 4), ("_law_s", 5), ("_law_m", 6)]) (g := (gTup K 6 (gCons (gName 1) (gCons (gName 2) (gCons (gName 3) (gCons (gName 4) (gCons (gName 5) (gCons (gName 6) gNil)))))))) (tt := tYes) (by rfl) sc__law_turned.nd (pi_reversed rfl (z_reversed X G c) (pa_cons (pv 0) pa_nil)) (blkOk_by (own := [("_law_one", 1), ("_law_r", 2), ("_law_n", 3), ("_law_other", 4), ("_law_s", 5), ("_law_m", 6)]) (N := N__law_turned) (sc := defScope s__law_turned) (by decide +kernel)) (fun _ _ _ _ _ => (pg_tup rfl (pgs_cons (pg_name (i := 1) sc__law_turned.nd rfl (Or.inl rfl)) (pgs_cons (pg_name (i := 2) sc__law_turned.nd rfl (Or.inl rfl)) (pgs_cons (pg_name (i := 3) sc__law_turned.nd rfl (Or.inl rfl)) (pgs_cons (pg_name (i := 4) sc__law_turned.nd rfl (Or.inl rfl)) (pgs_cons (pg_name (i := 5) sc__law_turned.nd rfl (Or.inl rfl)) (pgs_cons (pg_name (i := 6) sc__law_turned.nd rfl (Or.inl rfl)) pgs_nil)))))))) (fun _ _ _ _ _ => pts_nil) (fun _ _ _ _ _ => (pe_tup (pa_cons (pv 4) (pa_cons (pv 5) (pa_cons (pv 6) (pa_cons (pv 1) (pa_cons (pv 2) (pa_cons (pv 3) pa_nil)))))))))))
theorem ok_rate_of : Fn P w K mg base CX0 (4) "rate_of" ["games", "team"] (spRateOf K) := by
  obtain ⟨fd, F⟩ := c.def_ 17 (d := mkD ("rate_of", none) "rate_of" "rate_of" s_rate_of) rfl
  refine ⟨_, fd, He.glo_ok X G (c.fact 14 (f := .glo "rate_of") rfl), F.kp, F.bindsN (fun _ _ _ _ _ _ us hl => match us, hl with | [_, _], _ => rfl), F.ok sc_rate_of (by walk_at "lenof") fun cdv A outer s H vs Q E hr h => ⟨t_rate_of K, PSs.nox ?_, rd_rateOf (clsT_Standing c) vs H Q E h⟩⟩
  unfold t_rate_of
  exact (pss_one (ps_ret (pe_me0 (ok_Standing_rate X G c) (hr.mono (by decide)) pass0 (pe_dget (hu_of hr) (pe_fn (ok_standings X G c) (hr.mono (by decide)) pass0 (pa_cons (pe_tup (pa_cons pe_int (pa_cons pe_int (pa_cons pe_int pa_nil)))) (pa_cons (pv 0) pa_nil))) (pv 1) (fun _ _ => rfl)))))
theorem ok__law_within : Fn P w K mg base CX0 (5) "_law_within" ["_law_games_here", "_law_name"] (spWithin K) := by
  obtain ⟨fd, F⟩ := c.def_ 18 (d := mkD ("_law_within", none) "_law_within" "_law_within" s__law_within) rfl
  refine ⟨_, fd, He.glo_ok X G (c.fact 15 (f := .glo "_law_within") rfl), F.kp, F.bindsN (fun _ _ _ _ _ _ us hl => match us, hl with | [_, _], _ => rfl), F.ok sc__law_within (by walk_at "lenof") fun cdv A outer s H vs Q E hr h => ⟨t__law_within K, PSs.nox ?_, rd_within K vs H Q E h⟩⟩
  unfold t__law_within
  exact (pss_cons (ps_asg (pe_fn (ok_rate_of X G c) (hr.mono (by decide)) pass0 (pa_cons (pv 0) (pa_cons (pv 1) pa_nil))) (pg_tup rfl (pgs_cons (pg_name (i := 2) sc__law_within.nd rfl (Or.inl rfl)) (pgs_cons (pg_name (i := 3) sc__law_within.nd rfl (Or.inl rfl)) pgs_nil))))
  (pss_cons (ps_set (i := 4) sc__law_within.nd rfl (Or.inl rfl) pe_int)
  (pss_cons (ps_set (i := 5) sc__law_within.nd rfl (Or.inl rfl) pe_int)
  (pss_cons (ps_for PassesOwn.never rfl (pi_list (pv 0)) (pg_tup rfl (pgs_cons (pg_name (i := 6) sc__law_within.nd rfl (Or.inl rfl)) (pgs_cons (pg_name (i := 7) sc__law_within.nd rfl (Or.inl rfl)) (pgs_cons (pg_name (i := 8) sc__law_within.nd rfl (Or.inl rfl)) (pgs_cons (pg_name (i := 9) sc__law_within.nd rfl (Or.inl rfl)) (pgs_cons (pg_name (i := 10) sc__law_within.nd rfl (Or.inl rfl)) (pgs_cons (pg_name (i := 11) sc__law_within.nd rfl (Or.inl rfl)) pgs_nil)))))))
  (pss_one (ps_if (pt_cmpR op_in_seq (pv 1) (pe_tup (pa_cons (pv 6) (pa_cons (pv 9) pa_nil))) (by rfl))
  (pss_cons (ps_set (i := 4) sc__law_within.nd rfl (Or.inl rfl) (pe_callB (call_max3Nu rfl) rfl (z_max X G c) bt_max (pa_cons (pv 4) (pa_cons (pv 7) (pa_cons (pv 10) pa_nil)))))
  (pss_one (ps_set (i := 5) sc__law_within.nd rfl (Or.inl rfl) (pe_callB (call_min3Nu rfl) rfl (z_min X G c) bt_min (pa_cons (pv 5) (pa_cons (pe_op o_sub pe_int (pv 7)) (pa_cons (pe_op o_sub pe_int (pv 10)) pa_nil)))))))
  pss_nil)))
  (pss_one (ps_ret (pe_and (pe_cmpR o_gt (pv 3) pe_int (nomark _)) (pe_one (pe_chain o_le o_le (pe_op o_mul (pv 5) (pv 3)) (pv 2) (pe_op o_mul (pv 4) (pv 3)))))))))))
theorem okF_law {fd : FuncData} (F : FnP K "law" "law" s_law (He.fAd K ("law", none)) fd) : FnOk P w K mg base CX0 6 (He.fAd K ("law", none)) fd ["_law_script"] (spLaw K) := by
  refine F.ok sc_law (by walk_at "lenof") fun cdv A outer s H vs Q E hr h => ⟨t_law K, PSs.nox ?_, rd_law74 K vs H Q E h⟩
  unfold t_law
  exact (pss_cons (ps_asg (pe_fn (ok__law_league X G c) (hr.mono (by decide)) pass0 (pa_cons (pv 0) (pa_cons pe_int pa_nil))) (pg_tup rfl (pgs_cons (pg_name (i := 1) sc_law.nd rfl (Or.inl rfl)) (pgs_cons (pg_name (i := 2) sc_law.nd rfl (Or.inl rfl)) (pgs_cons (pg_name (i := 3) sc_law.nd rfl (Or.inr rfl)) pgs_nil)))))
  (pss_cons (ps_set (i := 4) sc_law.nd rfl (Or.inl rfl) (pe_fn (ok_standing X G c) (hr.mono (by decide)) pass0 (pa_cons (pv 1) (pa_cons (pv 2) (pa_cons (pv 3) pa_nil)))))
  (pss_cons (ps_if (pt_cmpR op_ne (pe_callB (cr_sum rfl) rfl (z_sum X G c) bt_sum (pa_cons (pe_lc (own := [("_law_row", 6)]) (g := (gName 6)) (tt := tYes) (by rfl) sc_law.nd (pi_list (pv 4)) (blkOk_by (own := [("_law_row", 6)]) (N := N_law) (sc := defScope s_law) (by decide +kernel)) (fun _ _ _ _ _ => (pg_name (i := 6) sc_law.nd rfl (Or.inl rfl))) (fun _ _ _ _ _ => pts_nil) (fun _ _ _ _ _ => (pe_ix ix_tup (pv 6) pe_int (fun _ _ => rfl)))) pa_nil)) (pe_callB (cr_sum rfl) rfl (z_sum X G c) bt_sum (pa_cons (pe_lc (own := [("_law_row", 6)]) (g := (gName 6)) (tt := tYes) (by rfl) sc_law.nd (pi_list (pv 4)) (blkOk_by (own := [("_law_row", 6)]) (N := N_law) (sc := defScope s_law) (by decide +kernel)) (fun _ _ _ _ _ => (pg_name (i := 6) sc_law.nd rfl (Or.inl rfl))) (fun _ _ _ _ _ => pts_nil) (fun _ _ _ _ _ => (pe_ix ix_tup (pv 6) pe_int (fun _ _ => rfl)))) pa_nil)) (nomark _))
  (pss_one (ps_ret pe_bl))
  pss_nil)
  (pss_cons (ps_if (pt_cmpR op_ne (pe_callB (cr_sum rfl) rfl (z_sum X G c) bt_sum (pa_cons (pe_lc (own := [("_law_row", 6)]) (g := (gName 6)) (tt := tYes) (by rfl) sc_law.nd (pi_list (pv 4)) (blkOk_by (own := [("_law_row", 6)]) (N := N_law) (sc := defScope s_law) (by decide +kernel)) (fun _ _ _ _ _ => (pg_name (i := 6) sc_law.nd rfl (Or.inl rfl))) (fun _ _ _ _ _ => pts_nil) (fun _ _ _ _ _ => (pe_ix ix_tup (pv 6) pe_int (fun _ _ => rfl)))) pa_nil)) (pe_op o_mul pe_int (pe_callB c_lenQ rfl (z_len X G c) bt_len (pa_cons (pe_lc (own := [("_law_game", 7)]) (g := (gName 7)) (tt := (tTest (tOp rEq (tOp (rIxT K) (tVar 7) (tC (.int 1))) (tOp (rIxT K) (tVar 7) (tC (.int 4)))))) (by rfl) sc_law.nd (pi_list (pv 3)) (blkOk_by (own := [("_law_game", 7)]) (N := N_law) (sc := defScope s_law) (by decide +kernel)) (fun _ _ _ _ _ => (pg_name (i := 7) sc_law.nd rfl (Or.inl rfl))) (fun _ _ _ _ _ => (pts_one (pt_cmpR op_eq (pe_ix ix_tup (pv 7) pe_int (fun _ _ => rfl)) (pe_ix ix_tup (pv 7) pe_int (fun _ _ => rfl)) (nomark _)))) (fun _ _ _ _ _ => (pv 7))) pa_nil))) (nomark _))
  (pss_one (ps_ret pe_bl))
  pss_nil)
  (pss_cons (ps_if (pt_cmpR op_ne (pe_callB (cr_sum rfl) rfl (z_sum X G c) bt_sum (pa_cons (pe_lc (own := [("_law_row", 6)]) (g := (gName 6)) (tt := tYes) (by rfl) sc_law.nd (pi_list (pv 4)) (blkOk_by (own := [("_law_row", 6)]) (N := N_law) (sc := defScope s_law) (by decide +kernel)) (fun _ _ _ _ _ => (pg_name (i := 6) sc_law.nd rfl (Or.inl rfl))) (fun _ _ _ _ _ => pts_nil) (fun _ _ _ _ _ => (pe_ix ix_tup (pv 6) pe_int (fun _ _ => rfl)))) pa_nil)) (pe_fn (ok__law_due_points X G c) (hr.mono (by decide)) pass0 (pa_cons (pv 1) (pa_cons (pv 3) pa_nil))) (nomark _))
  (pss_one (ps_ret pe_bl))
  pss_nil)
  (pss_cons (ps_set (i := 5) sc_law.nd rfl (Or.inl rfl) (pe_fn (ok_standing X G c) (hr.mono (by decide)) pass0 (pa_cons (pv 1) (pa_cons (pv 2) (pa_cons (pe_fn (ok__law_turned X G c) (hr.mono (by decide)) pass0 (pa_cons (pv 3) pa_nil)) pa_nil)))))
  (pss_cons (ps_if (PW.pt (pw_or (pt_cmpR (op_neD hr.units) (pe_callB cr_sortF rfl (z_sorted X G c) bt_sorted (pa_cons (pv 4) pa_nil)) (pe_callB cr_sortF rfl (z_sorted X G c) bt_sorted (pa_cons (pv 5) pa_nil)) (nomark _)) (pw_or1 (PW.pt (pw_and (pt_cmpR op_in_seq pe_str (pv 2) (by rfl)) (pw_and1 (pt_cmpR (op_neD hr.units) (pv 4) (pv 5) (nomark _))))))))
  (pss_one (ps_ret pe_bl))
  pss_nil)
  (pss_one (ps_ret (pe_callB (cr_all rfl) rfl (z_all X G c) bt_all (pa_cons (pe_lc (own := [("_law_row", 6)]) (g := (gName 6)) (tt := tYes) (by rfl) sc_law.nd (pi_list (pv 4)) (blkOk_by (own := [("_law_row", 6)]) (N := N_law) (sc := defScope s_law) (by decide +kernel)) (fun _ _ _ _ _ => (pg_name (i := 6) sc_law.nd rfl (Or.inl rfl))) (fun _ _ _ _ _ => pts_nil) (fun _ _ _ _ _ => (pe_and (pe_cmpR (op_eqD hr.units) (pe_ix ix_tup (pv 6) pe_int (fun _ _ => rfl)) (pe_fn (ok_rate_of X G c) (hr.mono (by decide)) pass0 (pa_cons (pv 3) (pa_cons (pe_ix ix_tup (pv 6) pe_int (fun _ _ => rfl)) pa_nil))) (nomark _)) (pe_one (pe_fn (ok__law_within X G c) (hr.mono (by decide)) pass0 (pa_cons (pv 3) (pa_cons (pe_ix ix_tup (pv 6) pe_int (fun _ _ => rfl)) pa_nil))))))) pa_nil)))))))))))
end
/-! ### the head -/
abbrev R : PySem.W.OpenRow := PySem.W.OpenLaw.row PySem.Challenge.rw_inningsbook_k74_whole_games_any_way_abou
abbrev hk : PySem.W.Hook := He.hookD 5 fa fn
def ob (s : PySem.W.SharedT) : He.AlD := He.obsDG 5 fa fn (HandSHeadRun.getT s)
theorem ob_eq (s : PySem.W.SharedT) : ob s = hk.obs s.abs := He.obsDG_eq (HandSHeadRun.getT_eq s)
def loose : List Str := (["__name__", "common_part", "lowest_terms", "Standing", "standings", "rate_of", "goes_ahead", "standing", "_law_at", "_law_mixed", "_law_names", "_law_breakers", "_law_small_game", "_law_games", "_law_league", "_law_turned", "_law_due_points", "_law_within"] : List Str)
theorem run (w : World) : HandSHeadRun.RunEq R (PySem.W.view R.prog [19]) hk ob 4000 loose w := by
  intro os
  kernel_rfl
theorem facts {P : Program} {w : World} {K : PySem.W.Frag} {h : Heap} {mg : Str → Option Value} {f : Addr} (X : K.In h) (G : h.Ns mainGlobals mg) (hfa : mg ("law" : Str) = some (.ref f)) (c : He.SaysD fa fn K) :
    ∃ fd : FuncData, (∀ (s : Shared) (v : Value), BindsTo s fd ⟨[v], []⟩ [("_law_script", v)]) ∧ ∀ base : Heap, K.In base → base.Ns mainGlobals mg → FnOk P w K mg base CX0 6 f fd ["_law_script"] (spLaw K) := by
  obtain ⟨fd, F⟩ := c.def_ 19 (d := mkD ("law", none) "law" "law" s_law) rfl
  have e := hfa.symm.trans (He.glo_ok X G (c.fact 16 (f := .glo "law") rfl))
  cases e
  have b := FunD.bindsA (ps := ["_law_script"]) F fun _ _ _ _ _ _ us hl => match us, hl with | [_], _ => rfl
  exact ⟨fd, fun s v => b s [v] rfl, fun base _ _ => okF_law X G c F⟩
end Inn
open PySem PySem.W PySem.Calls PyProof.Rows
theorem PySem.Challenge.cw_inningsbook_k74_whole_games_any_way_abou_holds : PySem.Challenge.rw_inningsbook_k74_whole_games_any_way_abou.Holds := by
  w_on; o_law
  refine HandSHeadRun.head_any (r := OpenLaw.row PySem.Challenge.rw_inningsbook_k74_whole_games_any_way_abou) (q := view (OpenLaw.row PySem.Challenge.rw_inningsbook_k74_whole_games_any_way_abou).prog [19]) (H := Inn.hk) (ob := Inn.ob) (M := 4000) (loose := Inn.loose) (d := HandSHeadRun.topDef (OpenLaw.row PySem.Challenge.rw_inningsbook_k74_whole_games_any_way_abou).prog 19) (kwd := []) Inn.ob_eq
    (by kernel_rfl) (fun s => by kernel_rfl) Inn.run (by kernel_rfl) (by kernel_rfl) (by kernel_rfl) (by rfl) (by first | assumption | decide +kernel) (by decide +kernel) ⟨rfl, rfl, rfl, rfl, rfl, by decide +kernel⟩ ?hw ?hc
  case hw => w_witness2
  case hc =>
    refine L2.walk_ofE (l := PySem.Challenge.rw_inningsbook_k74_whole_games_any_way_abou) (n := 63) (k := 6) (x := "_law_script") (CX := L2.CX0) rfl (by decide) (by kernel_rfl) ⟨rfl, by decide, by decide⟩ ?F (fun _ _ _ _ z => z)
    intro w mg fa h Y G hmg0
    obtain ⟨K, KX, c⟩ := Y
    have hmg : mg ("law" : PySem.Str) = some (.ref fa) := by
      have e : (HandSHeadRun.topDef (OpenLaw.row PySem.Challenge.rw_inningsbook_k74_whole_games_any_way_abou).prog 19).name = ("law" : PySem.Str) := by kernel_rfl
      rw [← e]
      exact hmg0
    obtain ⟨fd, hb, hF⟩ := Inn.facts (P := (PySem.Challenge.rw_inningsbook_k74_whole_games_any_way_abou).prog) (w := w) KX G hmg c
    exact ⟨K, fd, Inn.spLaw K, KX, hb, fun H a ns hl _ hS => ⟨a, ns, rfl, hS, hl, fun _ => rfl⟩, hF⟩

