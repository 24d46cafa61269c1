import PyProof.Rows.All
import Wide.All
import OpenK.AllK
import Wide.FinOn
import HandS.ForMost
import HandS.WordsExc
import HandS.Property
import HandS.Wide
import HandS.IsInst
import HandS.TupAny
import HandS.TupMul
import KE.KTupSum
import HandS.Defaults
import HandS.HeadHook2
import KE.GoesMore
import HandS.Iter
import HandS.Conv
import HandS.Style
import HandS.SetFor
import KE.DataFind
import HandS.SortInts
import HandS.Lambda
import HandS.HeadWalk
import HandS.GenList
import KE.KStateDown
import HandS.Head0
import HandS.Head1
import HandS.Head2
import HandS.HeadEnd
import HandS.HeadHook1
import HandS.HeadNt
import HandS.ExcOwn
import HandS.ExcIs
import HandS.Zip
import HandS.Text
import HandS.ClsMeth
import HandS.More
import KE.IntTextLaws
import HandS.Star
import HandS.ExcInit
import HandS.ExcField
import KE.KExcIs
import KE.KDflt
import PyProof.RulesMatchSeq
import PyProof.Rows.MatchSeqLen
import HandS.Dict
import HandS.Strs
import HandS.TryOnly
import KE.DataMinMax
import PySem.Challenge.RW_ticketwrap_k29_repeated_calls
set_option Elab.async false
set_option linter.all false
set_option maxRecDepth 100000
set_option maxHeartbeats 40000000
namespace TW
open PySem PySem.Spec PyProof.Rows L2
/-! ### the state as two lists: what stays for ever, what may change -/
/-- a fact that a larger heap keeps -/
abbrev MP := { f : Hp → Prop // ∀ E E', Same E E' → f E → f E' }
/-- an object that stays as it is -/
def cel (a : Addr) (o : HO) : MP := ⟨fun E => E a = some o, fun _ _ s h => s a o h⟩
structure S (F : List MP) (L : List (Addr × HO)) (H : Hp) : Prop where
  ex : ∃ E : Hp, Same E H ∧ (∀ f ∈ F, f.1 E) ∧ ∀ p ∈ L, E p.1 = none
  cell : ∀ p ∈ L, H p.1 = some p.2
  nd : (L.map (·.1)).Nodup
theorem S.same {F L} {H H' : Hp} (s : S F L H) (e : Same H H') : S F L H' :=
  ⟨let ⟨E, h1, h2, h3⟩ := s.ex; ⟨E, h1.trans e, h2, h3⟩, fun p hp => e _ _ (s.cell p hp), s.nd⟩
theorem S.phi {F L} {H : Hp} (s : S F L H) {f : MP} (h : f ∈ F) : f.1 H :=
  let ⟨E, h1, h2, _⟩ := s.ex; f.2 E H h1 (h2 f h)
theorem S.at_ {F L} {H : Hp} (s : S F L H) {a : Addr} {o : HO} (h : (a, o) ∈ L) : H a = some o := s.cell _ h
theorem S.fresh {F L} {H : Hp} (s : S F L H) {p : Addr} (h : H p = none) : p ∉ L.map (·.1) := fun hm => by
  obtain ⟨q, hq, e⟩ := List.mem_map.mp hm
  have := s.cell q hq
  rw [e, h] at this
  cases this
theorem same_new {H : Hp} {p : Addr} {o : HO} (h : H p = none) : Same H (upd H p o) := fun a u e => by
  rw [upd_ne (ne_of_none e h)]
  exact e
theorem same_none {E H : Hp} (e : Same E H) {p : Addr} (h : H p = none) : E p = none := e.free h
/-- a new object that may change -/
theorem S.new {F L} {H : Hp} (s : S F L H) {p : Addr} {o : HO} (h : H p = none) : S F ((p, o) :: L) (upd H p o) := by
  obtain ⟨E, h1, h2, h3⟩ := s.ex
  refine ⟨⟨E, h1.trans (same_new h), h2, fun q hq => ?_⟩, fun q hq => ?_, ?_⟩
  · rcases List.mem_cons.mp hq with rfl | hq
    · exact same_none h1 h
    · exact h3 q hq
  · rcases List.mem_cons.mp hq with rfl | hq
    · exact upd_same
    · exact same_new h _ _ (s.cell q hq)
  · rw [List.map_cons]
    exact List.nodup_cons.mpr ⟨s.fresh h, s.nd⟩
/-- a new object that stays -/
theorem S.newF {F L} {H : Hp} (s : S F L H) {p : Addr} {o : HO} (h : H p = none) : S (cel p o :: F) L (upd H p o) := by
  obtain ⟨E, h1, h2, h3⟩ := s.ex
  have hE := same_none h1 h
  refine ⟨⟨upd E p o, fun a u e => ?_, fun f hf => ?_, fun q hq => ?_⟩, fun q hq => same_new h _ _ (s.cell q hq), s.nd⟩
  · by_cases e1 : a = p
    · subst e1
      rw [upd_same] at e ⊢
      exact e
    · rw [upd_ne e1] at e ⊢
      exact h1 a u e
  · rcases List.mem_cons.mp hf with rfl | hf
    · exact upd_same
    · exact f.2 E _ (same_new hE) (h2 f hf)
  · have ne : q.1 ≠ p := fun e => by
      have := s.cell q hq
      rw [e, h] at this
      cases this
    rw [upd_ne ne]
    exact h3 q hq
/-- from now on it stays -/
theorem S.frz {F L} {H : Hp} {p : Addr} {o : HO} (s : S F ((p, o) :: L) H) : S (cel p o :: F) L H := by
  obtain ⟨E, h1, h2, h3⟩ := s.ex
  have hE : E p = none := h3 (p, o) List.mem_cons_self
  have hp : H p = some o := s.cell (p, o) List.mem_cons_self
  refine ⟨⟨upd E p o, fun a u e => ?_, fun f hf => ?_, fun q hq => ?_⟩, fun q hq => s.cell q (List.mem_cons_of_mem _ hq), (List.nodup_cons.mp s.nd).2⟩
  · by_cases e1 : a = p
    · subst e1
      rw [upd_same] at e
      cases e
      exact hp
    · rw [upd_ne e1] at e
      exact h1 a u e
  · rcases List.mem_cons.mp hf with rfl | hf
    · exact upd_same
    · exact f.2 E _ (same_new hE) (h2 f hf)
  · have ne : q.1 ≠ p := fun e => (List.nodup_cons.mp s.nd).1 (List.mem_map.mpr ⟨q, hq, e⟩)
    rw [upd_ne ne]
    exact h3 q (List.mem_cons_of_mem _ hq)
/-- o at a among L becomes o', L becomes L' -/
inductive Put (a : Addr) (o o' : HO) : List (Addr × HO) → List (Addr × HO) → Prop where
  | head {L} : Put a o o' ((a, o) :: L) ((a, o') :: L)
  | tail {q L L'} : Put a o o' L L' → Put a o o' (q :: L) (q :: L')
theorem Put.mem {a o o' L L'} (h : Put a o o' L L') : (a, o) ∈ L := by
  induction h with
  | head => exact List.mem_cons_self
  | tail _ ih => exact List.mem_cons_of_mem _ ih
theorem Put.keys {a o o' L L'} (h : Put a o o' L L') : L'.map (·.1) = L.map (·.1) := by
  induction h with
  | head => rfl
  | tail _ ih => rw [List.map_cons, List.map_cons, ih]
theorem Put.of {a o o' L L'} (h : Put a o o' L L') (nd : (L.map (·.1)).Nodup) : ∀ q ∈ L', q = (a, o') ∨ (q.1 ≠ a ∧ q ∈ L) := by
  induction h with
  | head =>
    rename_i L
    intro q hq
    rcases List.mem_cons.mp hq with rfl | hq
    · exact .inl rfl
    · refine .inr ⟨fun e => (List.nodup_cons.mp nd).1 (List.mem_map.mpr ⟨q, hq, e⟩), List.mem_cons_of_mem _ hq⟩
  | tail hp ih =>
    rename_i q0 L L'
    intro q hq
    rcases List.mem_cons.mp hq with rfl | hq
    · refine .inr ⟨fun e => (List.nodup_cons.mp nd).1 ?_, List.mem_cons_self⟩
      exact List.mem_map.mpr ⟨_, hp.mem, e.symm⟩
    · rcases ih (List.nodup_cons.mp nd).2 q hq with h | ⟨h1, h2⟩
      · exact .inl h
      · exact .inr ⟨h1, List.mem_cons_of_mem _ h2⟩
/-- all but a is kept -/
def But (a : Addr) (H H' : Hp) : Prop := ∀ b u, b ≠ a → H b = some u → H' b = some u
theorem S.but {F L L'} {H H' : Hp} {a : Addr} {o o' : HO} (s : S F L H) (p : Put a o o' L L') (k : But a H H') (h : H' a = some o') : S F L' H' := by
  obtain ⟨E, h1, h2, h3⟩ := s.ex
  have hE : E a = none := h3 _ p.mem
  refine ⟨⟨E, fun b u e => k b u (fun z => by rw [z, hE] at e; cases e) (h1 b u e), h2, fun q hq => ?_⟩, fun q hq => ?_, by rw [p.keys]; exact s.nd⟩
  · rcases p.of s.nd q hq with rfl | ⟨_, hq⟩
    · exact hE
    · exact h3 q hq
  · rcases p.of s.nd q hq with rfl | ⟨ne, hq⟩
    · exact h
    · exact k _ _ ne (s.cell q hq)
theorem but_upd {H : Hp} {a : Addr} {o : HO} : But a H (upd H a o) := fun b u ne e => by rw [upd_ne ne]; exact e
theorem S.put {F L L'} {H : Hp} {a : Addr} {o o' : HO} (s : S F L H) (p : Put a o o' L L') : S F L' (upd H a o') := s.but p but_upd upd_same
theorem S.mono {F F' L L'} {H : Hp} (s : S F L H) (hF : ∀ f ∈ F', f ∈ F) (hL : L'.Sublist L) : S F' L' H := by
  obtain ⟨E, h1, h2, h3⟩ := s.ex
  exact ⟨⟨E, h1, fun f hf => h2 f (hF f hf), fun p hp => h3 p (hL.subset hp)⟩, fun p hp => s.cell p (hL.subset hp), (hL.map _).nodup s.nd⟩
theorem S.dropF {f F L} {H : Hp} (s : S (f :: F) L H) : S F L H := s.mono (fun _ h => List.mem_cons_of_mem _ h) (List.Sublist.refl _)
theorem S.dropL {q F L} {H : Hp} (s : S F (q :: L) H) : S F L H := s.mono (fun _ h => h) (List.sublist_cons_self _ _)
theorem S.keepL {q F L L'} {H : Hp} (s : S F (q :: L) H) (h : L'.Sublist L) : S F (q :: L') H := s.mono (fun _ h => h) (h.cons_cons q)
theorem S.perm {F L L'} {H : Hp} (s : S F L H) (h : L.Perm L') : S F L' H := by
  obtain ⟨E, h1, h2, h3⟩ := s.ex
  exact ⟨⟨E, h1, h2, fun p hp => h3 p (h.mem_iff.mpr hp)⟩, fun p hp => s.cell p (h.mem_iff.mpr hp), ((h.map _).nodup_iff).mp s.nd⟩
/-- q brought ahead -/
inductive Pull (q : Addr × HO) : List (Addr × HO) → List (Addr × HO) → Prop where
  | head {L} : Pull q (q :: L) L
  | tail {r L L'} : Pull q L L' → Pull q (r :: L) (r :: L')
theorem Pull.perm {q L L'} (h : Pull q L L') : L.Perm (q :: L') := by
  induction h with
  | head => exact List.Perm.refl _
  | tail _ ih => exact (ih.cons _).trans (List.Perm.swap _ _ _)
theorem S.pull {F q L L'} {H : Hp} (s : S F L H) (h : Pull q L L') : S F (q :: L') H := s.perm h.perm
/-- a fact that follows -/
theorem S.addF {F L} {H : Hp} (s : S F L H) (f : MP) (h : ∀ E : Hp, (∀ g ∈ F, g.1 E) → f.1 E) : S (f :: F) L H := by
  obtain ⟨E, h1, h2, h3⟩ := s.ex
  refine ⟨⟨E, h1, fun g hg => ?_, h3⟩, s.cell, s.nd⟩
  rcases List.mem_cons.mp hg with rfl | hg
  · exact h E h2
  · exact h2 g hg
end TW
namespace TW
open PySem PySem.Spec PyProof.Rows L2
/-! ### rules for constructs, whatever the values' kinds -/
def rAddA (K : PySem.W.Frag) : R2 := fun x y H Q => (rI0 (fun i j => .int (i + j)) x y H Q) ∨ (∃ i j, x = .str i ∧ y = .str j ∧ i.length + j.length ≤ sizeLine ∧ Q (.str (i ++ j)) H) ∨ rCat x y H Q ∨ rCatA K x y H Q
def rMulA (K : PySem.W.Frag) : R2 := fun x y H Q => (rI CMul (fun i j => .int (i * j)) x y H Q) ∨ rRep x y H Q ∨ rRepT K x y H Q
def rSubA : R2 := rI0 fun i j => .int (i - j)
def rDivA : R2 := rI CDivW fun i j => .int (i / j)
def rModA : R2 := rI (fun _ j => 0 < j) fun i j => .int (i % j)
def rPowA : R2 := rI CPow fun i j => .int (i ^ j.toNat)
def rLtA : R2 := rI0 fun i j => .bl (decide (i < j))
def rLeA : R2 := rI0 fun i j => .bl (decide (i ≤ j))
def rGtA : R2 := rI0 fun i j => .bl (decide (j < i))
def rGeA : R2 := rI0 fun i j => .bl (decide (j ≤ i))
def rEqA (K : PySem.W.Frag) : R2 := fun x y H Q => rEq x y H Q ∨ rEqD K x y H Q
def rNeA (K : PySem.W.Frag) : R2 := fun x y H Q => rNe x y H Q ∨ rNeD K x y H Q
def rInA (K : PySem.W.Frag) : R2 := rIn K false
def rNiA (K : PySem.W.Frag) : R2 := rIn K true
def rIsA : R2 := fun x y H Q => y = .non ∧ Q (.bl (decide (x = .non))) H
def rIsnA : R2 := fun x y H Q => y = .non ∧ Q (.bl (!decide (x = .non))) H
def rLenA (K : PySem.W.Frag) : List V → Hp → VK → Prop := fun xs H Q => (∃ p ys, xs = [.ref p] ∧ (SqL K H p ys ∨ SqT K H p ys) ∧ Q (.int ys.length) H) ∨ ∃ z, xs = [.str z] ∧ z.length ≤ sizeLine ∧ Q (.int z.length) H
def rSumA (K : PySem.W.Frag) : List V → Hp → VK → Prop := fun vs H Q => ∃ (a : Addr) (ns : List Int), vs = [V.ref a] ∧ (SqL K H a (ns.map V.int) ∨ SqT K H a (ns.map V.int)) ∧ Q (.int ns.sum) H
def rMaxA (K : PySem.W.Frag) : List V → Hp → VK → Prop := fun vs H Q => (∃ i j, vs = [.int i, .int j] ∧ Q (.int (if j > i then j else i)) H) ∨ rMax K vs H Q
def rMinA (K : PySem.W.Frag) : List V → Hp → VK → Prop := fun vs H Q => (∃ i j, vs = [.int i, .int j] ∧ Q (.int (if j < i then j else i)) H) ∨ rMin K vs H Q
def rAbs : List V → Hp → VK → Prop := fun xs H Q => ∃ i, xs = [.int i] ∧ Q (.int (if i < 0 then -i else i)) H
def rDivmod : List V → Hp → VK → Prop := fun xs H Q => ∃ i j, xs = [.int i, .int j] ∧ CDiv i j ∧ ∀ p, H p = none → Q (.ref p) (upd H p (.tup [.int (i / j), .int (i % j)]))
def rListOf (K : PySem.W.Frag) : List V → Hp → VK → Prop := fun xs H Q => ∃ p ys, xs = [.ref p] ∧ (SqL K H p ys ∨ SqT K H p ys) ∧ ∀ l, H l = none → Q (.ref l) (upd H l (.lst ys))
def rTupleOf (K : PySem.W.Frag) : List V → Hp → VK → Prop := fun xs H Q => ∃ p ys, xs = [.ref p] ∧ ((SqL K H p ys ∧ ∀ l, H l = none → Q (.ref l) (upd H l (.tup ys))) ∨ (SqT K H p ys ∧ Q (.ref p) H))
def rIntOf : List V → Hp → VK → Prop := fun xs H Q => (∃ i, xs = [.int i] ∧ Q (.int i) H) ∨ ∃ k, xs = [.bl k] ∧ Q (.int (if k then 1 else 0)) H
def rStrOf : List V → Hp → VK → Prop := fun xs H Q => ∃ i, xs = [.int i] ∧ i.natAbs.log2 < 1920 ∧ Q (.str (toString i)) H

section
variable {X : Cx} {K : PySem.W.Frag} {a b c : Expr} {ta tb tc : TE} {pos p : Pos} {es : List Expr} {t : TA}
theorem d_add (K) (ha : PE X a ta) (hb : PE X b tb) (hK : X.K = K := by rfl) : PE X (.BinOp a .Add b pos) (tOp (rAddA K) ta tb) := by
  subst hK; exact pe_op (op_add.or (op_add_str.or (op_cat.or op_catA))) ha hb
theorem d_mul (K) (ha : PE X a ta) (hb : PE X b tb) (hK : X.K = K := by rfl) : PE X (.BinOp a .Mult b pos) (tOp (rMulA K) ta tb) := by
  subst hK; exact pe_op (op_mul.or (op_rep.or op_repT)) ha hb
theorem d_sub (ha : PE X a ta) (hb : PE X b tb) : PE X (.BinOp a .Sub b pos) (tOp rSubA ta tb) := pe_op op_sub ha hb
theorem d_div (ha : PE X a ta) (hb : PE X b tb) : PE X (.BinOp a .FloorDiv b pos) (tOp rDivA ta tb) := pe_op op_fdivW ha hb
theorem d_mod (ha : PE X a ta) (hb : PE X b tb) : PE X (.BinOp a .Mod b pos) (tOp rModA ta tb) := pe_op op_mod ha hb
theorem d_pow (ha : PE X a ta) (hb : PE X b tb) : PE X (.BinOp a .Pow b pos) (tOp rPowA ta tb) := pe_op op_pow ha hb
theorem d_neg (ha : PE X a ta) : PE X (.UnaryOp .USub a pos) (tUn (rU fun i => .int (-i)) ta) := pe_un un_neg ha
theorem d_ix (K) (ha : PE X a ta) (hb : PE X b tb) (hs : PlainIx b) (hK : X.K = K := by rfl) : PE X (.Subscript a b pos) (tOp (rIx K) ta tb) := by
  subst hK; exact pe_ix ix_seq ha hb hs
theorem o_lt : OpR X (compareOp .Lt) rLtA := op_lt
theorem o_le : OpR X (compareOp .LtE) rLeA := op_le
theorem o_gt : OpR X (compareOp .Gt) rGtA := op_gt
theorem o_ge : OpR X (compareOp .GtE) rGeA := op_ge
theorem o_eq (K) (hu : X.A.units + 64 < cLine) (hK : X.K = K := by rfl) : OpR X (compareOp .Eq) (rEqA K) := by subst hK; exact op_eq.or (op_eqD hu)
theorem o_ne (K) (hu : X.A.units + 64 < cLine) (hK : X.K = K := by rfl) : OpR X (compareOp .NotEq) (rNeA K) := by subst hK; exact op_ne.or (op_neD hu)
theorem o_in (K) (hK : X.K = K := by rfl) : OpR X (compareOp .In) (rInA K) := by subst hK; exact op_in_seq
theorem o_ni (K) (hK : X.K = K := by rfl) : OpR X (compareOp .NotIn) (rNiA K) := by subst hK; exact op_notIn_seq
theorem o_is : OpR X (compareOp .Is) rIsA := op_isN
theorem o_isn : OpR X (compareOp .IsNot) rIsnA := op_notN
theorem d_cmp {op : CmpOp} {r : R2} (ho : OpR X (compareOp op) r) (ha : PE X a ta) (hb : PE X b tb) (hm : behindInMarks op b = false := by first | exact nomark _ | rfl) : PE X (.Compare a [op] [b] pos) (tOp r ta tb) := pe_cmpR ho ha hb hm
theorem q_cmp {op : CmpOp} {r : R2} (ho : OpR X (compareOp op) r) (ha : PE X a ta) (hb : PE X b tb) (hm : behindInMarks op b = false := by first | exact nomark _ | rfl) : PT X (.Compare a [op] [b] pos) (tTest (tOp r ta tb)) := pt_cmpR ho ha hb hm
theorem d_bool {k : Bool} {j pos} : PE X (.Constant (.bool k) j pos) (tC (.bl k)) := pe_bl
end
/-! ### calls of the text's own defs -/
structure Df (P : Program) (w : World) (K : PySem.W.Frag) (mg : Str → Option Value) (base : Heap) (CX : CXT) (k : Nat) (x : Str) (ps : List Str) (sp : Sp) : Prop where
  ex : ∃ f fd, mg x = some (.ref f) ∧ PySem.W.keepIn K (.ref f) = true ∧ Binds K fd ps [] ∧ FnOk P w K mg base CX k f fd ps sp
structure Dm (P : Program) (w : World) (K : PySem.W.Frag) (mg : Str → Option Value) (base : Heap) (CX : CXT) (k : Nat) (C : Addr) (m : Str) (ps : List Str) (sp : Sp) : Prop where
  ex : ∃ f fd, Cls K C ∧ Meth K C m f ∧ Binds K fd ps [] ∧ FnOk P w K mg base CX k f fd ps sp
structure Dpr (P : Program) (w : World) (K : PySem.W.Frag) (mg : Str → Option Value) (base : Heap) (CX : CXT) (k : Nat) (C : Addr) (m : Str) (ps : List Str) (sp : Sp) : Prop where
  ex : ∃ f fd p, Cls K C ∧ PropOf K C m p f ∧ Binds K fd ps [] ∧ FnOk P w K mg base CX k f fd ps sp
structure Dk (P : Program) (w : World) (K : PySem.W.Frag) (mg : Str → Option Value) (base : Heap) (CX : CXT) (k : Nat) (C : Addr) (x : Str) (ps : List Str) (sp : Sp) : Prop where
  ex : ∃ f fd, mg x = some (.ref C) ∧ Mk K C f ∧ Binds K fd ps [] ∧ FnOk P w K mg base CX k f fd ps sp
section
variable {X : Cx} {k : Nat} {C : Addr} {ps : List Str} {sp : Sp} {x m : Str} {p pos apos : Pos} {e o : Expr} {es : List Expr} {ta : TE} {t : TA} {CX : CXT} {E : XK}
theorem d_call (D : Df X.prog X.w X.K X.mg X.base CX k x ps sp) (hx : Passes CX X E) (hr : Room k X.A) (ha : PA X (e :: es) t) (hg : Gl X x := by rfl) (hdb : (x == ("__debug__" : Str)) = false := by decide)
    (he : starEach (e :: es) X.env = (false, eval e X.env) :: starEach es X.env := by rfl) (hpl : (backTo pos (starEach es X.env)).any (·.1) = false := by rfl) : PE X (.Call (.Name x p) (e :: es) [] pos) (tCall sp [] E t) := by
  obtain ⟨f, fd, mf, kp, b, F⟩ := D.ex
  exact pe_call F hr hg mf kp b .nil hx ha hdb he hpl
theorem d_make (D : Dk X.prog X.w X.K X.mg X.base CX k C x ps sp) (hx : Passes CX X E) (hr : Room (k + 1) X.A) (ha : PA X (e :: es) t) (hg : Gl X x := by rfl) (hdb : (x == ("__debug__" : Str)) = false := by decide)
    (he : starEach (e :: es) X.env = (false, eval e X.env) :: starEach es X.env := by rfl) (hpl : (backTo pos (starEach es X.env)).any (·.1) = false := by rfl) : PE X (.Call (.Name x p) (e :: es) [] pos) (tMake C sp [] E t) := by
  obtain ⟨f, fd, mf, M, b, F⟩ := D.ex
  exact pe_make M F hr hg mf b .nil hx ha hdb he hpl
theorem d_meth {pl : Sem Bool} (D : Dm X.prog X.w X.K X.mg X.base CX k C m ps sp) (hx : Passes CX X E) (hr : Room k X.A) (he : PE X o ta) (ha : PA X (e :: es) t)
    (hst : starEach (e :: es) X.env = (false, eval e X.env) :: starEach es X.env := by rfl) (hpl : (backTo pos (starEach es X.env)).any (·.1) = false := by rfl)
    (ht : eval (.Call (.Attribute o m apos) (e :: es) [] pos) X.env = (do
      let ov ← eval o X.env
      standAt apos.atName
      let (f, first) ← holding [ov] (getMethod ov m pl)
      callWith pos f first (backTo pos (starEach (e :: es) X.env)) (backToKw pos (keywordEach [] X.env))) := by rfl) :
    PE X (.Call (.Attribute o m apos) (e :: es) [] pos) (tMeth C m sp [] E ta t) := by
  obtain ⟨f, fd, c, mf, b, F⟩ := D.ex
  exact pe_meth he c mf F hr b .nil hx ha hst hpl ht
theorem d_meth0 {pl : Sem Bool} (D : Dm X.prog X.w X.K X.mg X.base CX k C m ps sp) (hx : Passes CX X E) (hr : Room k X.A) (he : PE X o ta)
    (ht : eval (.Call (.Attribute o m apos) [] [] pos) X.env = (do
      let ov ← eval o X.env
      standAt apos.atName
      let (f, first) ← holding [ov] (getMethod ov m pl)
      callWith pos f first (backTo pos (starEach [] X.env)) (backToKw pos (keywordEach [] X.env))) := by rfl) :
    PE X (.Call (.Attribute o m apos) [] [] pos) (tMeth C m sp [] E ta tNil) := by
  obtain ⟨f, fd, c, mf, b, F⟩ := D.ex
  exact pe_meth0 he c mf F hr b .nil hx ht
theorem d_prop (D : Dpr X.prog X.w X.K X.mg X.base CX k C m ps sp) (hx : Passes CX X.nox E) (hr : Room (k + 1) X.A) (he : PE X e ta)
    (hab : attributeBase e m X.env (eval e X.env) = eval e X.env := by rfl) : PE X (.Attribute e m pos) (tProp C sp [] E ta) := by
  obtain ⟨f, fd, q, c, pf, b, F⟩ := D.ex
  exact pe_prop he c pf F hr b .nil hx hab
theorem d_fld (K) (he : PE X e ta) (hb : attributeBase e m X.env (eval e X.env) = eval e X.env := by rfl) (hK : X.K = K := by rfl) : PE X (.Attribute e m pos) (tFld K ta m) := by
  subst hK; exact pe_fld he hb
end
/-! ### builtins -/
section
variable {X : Cx} {K : PySem.W.Frag}
theorem sum_tup_raw {prog : Program} {w : World} {A : Around} {E : Value → Shared → Prop} {s : Shared} {l : Addr} {its : List Value} {ns : List Int} {Q : Value → Shared → Prop} (hh : A.handled = none) (hl : s.heap.IsTuple l its.toArray) (hi : IntsAre its ns)
    (h : ∀ h' tk t', (∀ b o, s.heap.get? b = some o → h'.get? b = some o) → Q (.int ns.sum t') { s with heap := h', toks := tk }) : wpAny (model prog w) A (call (.builtin "sum") [.ref l]) Q E s := by
  obtain ⟨xs, e⟩ := hi.allInts.items
  have hn : numsOf (intItems xs).toList = ns := by rw [← e]; exact hi.numsOf
  rw [nums_intItems] at hn
  rw [e] at hl
  refine PySem.W.ktm_sumG hh hl fun h' tk t' hk => ?_
  have := h h' tk t' hk
  rw [preSum_eq, List.take_of_length_le (by simp), hn]; exact this
theorem c_sum (hc : X.calm = true) (hK : X.K = K) : CallR X (.builtin "sum") (rSumA K) := by
  subst hK
  intro pins s σ H vs us Q I r h
  obtain ⟨a, ns, rfl, hs | hs, q⟩ := h
  · exact cr_sum hc pins s σ H _ us Q I r ⟨a, ns, rfl, hs, q⟩
  · obtain ⟨its, rv, hl, _⟩ := I.tuple hs
    rw [Vals.ref1 r]
    exact sum_tup_raw (I.ok.hd hc) hl rv.ints fun h' tk t' hk => ⟨.int _, H, I.kept hk, ⟨_, rfl⟩, q⟩
theorem c_len (hK : X.K = K) : CallR X (.builtin "len") (rLenA K) := by subst hK; exact call_len_seq.or call_len_str
theorem c_max (hc : X.calm = true) (hK : X.K = K) : CallR X (.builtin "max") (rMaxA K) := by subst hK; exact (call_max2 hc).or (cr_max hc)
theorem c_min (hc : X.calm = true) (hK : X.K = K) : CallR X (.builtin "min") (rMinA K) := by subst hK; exact (call_min2 hc).or (cr_min hc)
theorem c_abs : CallR X (.builtin "abs") rAbs := call_abs
theorem c_divmod : CallR X (.builtin "divmod") rDivmod := call_divmod
theorem c_any (hc : X.calm = true) (hK : X.K = K) : CallR X (.builtin "any") (rAny K) := by subst hK; exact cr_any hc
theorem c_all (hc : X.calm = true) (hK : X.K = K) : CallR X (.builtin "all") (rAll K) := by subst hK; exact cr_all hc
theorem c_isi (hK : X.K = K) : CallR X (.builtin "isinstance") (rIsi K) := by subst hK; exact call_isi
theorem c_list (hK : X.K = K) : CallR X (.type "list") (rListOf K) := by subst hK; exact call_list_of
theorem c_tuple (hK : X.K = K) : CallR X (.type "tuple") (rTupleOf K) := by subst hK; exact call_tuple_of
theorem c_int : CallR X (.type "int") rIntOf := call_int1
theorem c_str : CallR X (.type "str") rStrOf := call_str_int
end
theorem bt_sum : bootBuiltins "sum" = some (.builtin "sum") := by decide +kernel
theorem bt_len : bootBuiltins "len" = some (.builtin "len") := by decide +kernel
theorem bt_max : bootBuiltins "max" = some (.builtin "max") := by decide +kernel
theorem bt_min : bootBuiltins "min" = some (.builtin "min") := by decide +kernel
theorem bt_abs : bootBuiltins "abs" = some (.builtin "abs") := by decide +kernel
theorem bt_divmod : bootBuiltins "divmod" = some (.builtin "divmod") := by decide +kernel
theorem bt_any : bootBuiltins "any" = some (.builtin "any") := by decide +kernel
theorem bt_all : bootBuiltins "all" = some (.builtin "all") := by decide +kernel
theorem bt_isinstance : bootBuiltins "isinstance" = some (.builtin "isinstance") := by decide +kernel
theorem bt_list : bootBuiltins "list" = some (.type "list") := by decide +kernel
theorem bt_tuple : bootBuiltins "tuple" = some (.type "tuple") := by decide +kernel
theorem bt_int : bootBuiltins "int" = some (.type "int") := by decide +kernel
theorem bt_str : bootBuiltins "str" = some (.type "str") := by decide +kernel
theorem bt_bool : bootBuiltins "bool" = some (.type "bool") := by decide +kernel
theorem bt_range : bootBuiltins "range" = some (.type "range") := by decide +kernel
end TW
namespace TW
open PySem PySem.Spec PyProof.Rows L2
/-! ### readings, one step each -/
abbrev Sl := L2.St
section
variable {K : PySem.W.Frag} {σ σ' : Sl} {H : Hp} {Q : VK} {v x y z : V} {i j : Int} {n k : Nat} {b : Bool} {p q a C : Addr} {xs ys : List V} {F : List MP} {L L' : List (Addr × HO)} {ta tb tc te : TE} {t t' : TA} {tt tu : TT} {D : Ends} {ts tw : TS} {g : TG} {gs : TGs} {E : XK} {sp : Sp}
theorem r_op {r : R2} (h : ta σ H fun x H1 => tb σ H1 fun y H2 => r x y H2 Q) : tOp r ta tb σ H Q := h
theorem r_var (h : σ[n]? = some (some v)) (q : Q v H) : tVar n σ H Q := ⟨v, h, q⟩
theorem r_c (q : Q v H) : tC v σ H Q := q
theorem r_un {r : V → Hp → VK → Prop} (h : ta σ H fun x H1 => r x H1 Q) : tUn r ta σ H Q := h
theorem r_cb {r : List V → Hp → VK → Prop} (h : t σ H fun vs H1 => r vs H1 Q) : tCB r t σ H Q := h
theorem r_cons {Q : List V → Hp → Prop} (h : ta σ H fun x H1 => t σ H1 fun xs H2 => Q (x :: xs) H2) : tCons ta t σ H Q := h
theorem r_nil {Q : List V → Hp → Prop} (q : Q [] H) : tNil σ H Q := q
theorem r_call (h : t σ H fun vs H1 => sp vs H1 Q E) : tCall sp [] E t σ H Q := by
  unfold tCall
  simp only [List.append_nil]
  exact h
/-- the receiver, an instance -/
def rMeth (C : Addr) (m : Str) (sp : Sp) (E : XK) (t : TA) (σ : Sl) (x : V) (H : Hp) (Q : VK) : Prop := ∃ a dx fs, x = .ref a ∧ H a = some (.ins C dx fs) ∧ fs.lookup m = none ∧ t σ H fun vs H2 => sp (x :: vs) H2 Q E
theorem r_meth {m : Str} (h : ta σ H fun x H1 => rMeth C m sp E t σ x H1 Q) : tMeth C m sp [] E ta t σ H Q := by
  unfold tMeth
  simp only [List.append_nil]
  exact h
def rProp (C : Addr) (sp : Sp) (E : XK) (x : V) (H : Hp) (Q : VK) : Prop := ∃ a dx fs, x = .ref a ∧ H a = some (.ins C dx fs) ∧ sp [.ref a] H Q E
theorem r_prop (h : ta σ H fun x H1 => rProp C sp E x H1 Q) : tProp C sp [] E ta σ H Q := h
def rFld (K : PySem.W.Frag) (f : Str) (x : V) (H : Hp) (Q : VK) : Prop := ∃ a C dx fs v, x = .ref a ∧ H a = some (.ins C dx fs) ∧ Cls K C ∧ NoAttr K C f ∧ fs.lookup f = some v ∧ Q v H
theorem r_fld {f : Str} (h : ta σ H fun x H1 => rFld K f x H1 Q) : tFld K ta f σ H Q := h
theorem x_fld {f : Str} {dx : Addr} {fs : List (Str × V)} (h : H p = some (.ins C dx fs)) (hc : Cls K C) (hn : NoAttr K C f) (hl : fs.lookup f = some v) (q : Q v H) : rFld K f (.ref p) H Q := ⟨p, C, dx, fs, v, rfl, h, hc, hn, hl, q⟩
def rMake (C : Addr) (sp : Sp) (E : XK) (vs : List V) (H1 : Hp) (Q : VK) : Prop := ∀ x dx, H1 x = none → H1 dx = none → dx ≠ x → sp (.ref x :: vs) (upd (upd H1 dx (.own x)) x (.ins C dx [])) (fun v H2 => v = .non ∧ Q (.ref x) H2) E
theorem r_make (h : t σ H fun vs H1 => rMake C sp E vs H1 Q) : tMake C sp [] E t σ H Q := by
  unfold tMake
  simp only [List.append_nil]
  exact h
theorem x_make {vs : List V} (s : S F L H) (h : ∀ x dx H1, S (cel dx (.own x) :: F) ((x, .ins C dx []) :: L) H1 → sp (.ref x :: vs) H1 (fun v H2 => v = .non ∧ Q (.ref x) H2) E) : rMake C sp E vs H Q := fun x dx hx hdx ne => by
  refine h x dx _ ?_
  have s1 := s.newF (o := .own x) hdx
  exact s1.new (by rw [upd_ne (Ne.symm ne)]; exact hx)
/-! operators -/
theorem x_addI (q : Q (.int (i + j)) H) : rAddA K (.int i) (.int j) H Q := .inl ⟨i, j, rfl, rfl, q⟩
theorem x_addS {u w : Str} (hl : u.length + w.length ≤ sizeLine) (q : Q (.str (u ++ w)) H) : rAddA K (.str u) (.str w) H Q := .inr (.inl ⟨u, w, rfl, rfl, hl, q⟩)
theorem x_sub (q : Q (.int (i - j)) H) : rSubA (.int i) (.int j) H Q := ⟨i, j, rfl, rfl, q⟩
theorem x_mulI (h : CMul i j) (q : Q (.int (i * j)) H) : rMulA K (.int i) (.int j) H Q := .inl ⟨i, j, rfl, rfl, h, q⟩
theorem x_div (h : CDivW i j) (q : Q (.int (i / j)) H) : rDivA (.int i) (.int j) H Q := ⟨i, j, rfl, rfl, h, q⟩
theorem x_mod (h : 0 < j) (q : Q (.int (i % j)) H) : rModA (.int i) (.int j) H Q := ⟨i, j, rfl, rfl, h, q⟩
theorem x_pow (h : CPow i j) (q : Q (.int (i ^ j.toNat)) H) : rPowA (.int i) (.int j) H Q := ⟨i, j, rfl, rfl, h, q⟩
theorem x_neg (q : Q (.int (-i)) H) : rU (fun i => .int (-i)) (.int i) H Q := ⟨i, rfl, q⟩
theorem x_lt (q : Q (.bl (decide (i < j))) H) : rLtA (.int i) (.int j) H Q := ⟨i, j, rfl, rfl, q⟩
theorem x_le (q : Q (.bl (decide (i ≤ j))) H) : rLeA (.int i) (.int j) H Q := ⟨i, j, rfl, rfl, q⟩
theorem x_gt (q : Q (.bl (decide (j < i))) H) : rGtA (.int i) (.int j) H Q := ⟨i, j, rfl, rfl, q⟩
theorem x_ge (q : Q (.bl (decide (j ≤ i))) H) : rGeA (.int i) (.int j) H Q := ⟨i, j, rfl, rfl, q⟩
theorem dI : decide (V.int i = V.int j) = decide (i = j) := by
  by_cases e : i = j
  · subst e; simp
  · rw [decide_eq_false e, decide_eq_false (fun z => e (V.int.inj z))]
theorem dS {u w : Str} : decide (V.str u = V.str w) = decide (u = w) := by
  by_cases e : u = w
  · subst e; simp
  · rw [decide_eq_false e, decide_eq_false (fun z => e (V.str.inj z))]
theorem dB {u w : Bool} : decide (V.bl u = V.bl w) = decide (u = w) := by
  by_cases e : u = w
  · subst e; simp
  · rw [decide_eq_false e, decide_eq_false (fun z => e (V.bl.inj z))]
theorem x_eqI (q : Q (.bl (decide (i = j))) H) : rEqA K (.int i) (.int j) H Q := .inl ⟨rfl, by rw [dI]; exact q⟩
theorem x_neI (q : Q (.bl (!decide (i = j))) H) : rNeA K (.int i) (.int j) H Q := .inl ⟨rfl, by rw [dI]; exact q⟩
theorem x_eqS {u w : Str} (q : Q (.bl (decide (u = w))) H) : rEqA K (.str u) (.str w) H Q := .inl ⟨rfl, by rw [dS]; exact q⟩
theorem x_neS {u w : Str} (q : Q (.bl (!decide (u = w))) H) : rNeA K (.str u) (.str w) H Q := .inl ⟨rfl, by rw [dS]; exact q⟩
theorem x_isN (q : Q (.bl true) H) : rIsA .non .non H Q := ⟨rfl, q⟩
theorem x_isF (h : x ≠ .non) (q : Q (.bl false) H) : rIsA x .non H Q := ⟨rfl, by rw [decide_eq_false h]; exact q⟩
theorem x_isnN (q : Q (.bl false) H) : rIsnA .non .non H Q := ⟨rfl, q⟩
theorem x_isnF (h : x ≠ .non) (q : Q (.bl true) H) : rIsnA x .non H Q := ⟨rfl, by rw [decide_eq_false h]; exact q⟩
/-! lists, tuples -/
theorem x_ixL (h : SqL K H p xs) (e : atI xs i = some v) (q : Q v H) : rIx K (.ref p) (.int i) H Q := .inl ⟨p, xs, i, v, rfl, rfl, h, e, q⟩
theorem x_ixT (h : SqT K H p xs) (e : atI xs i = some v) (q : Q v H) : rIx K (.ref p) (.int i) H Q := .inr (.inl ⟨p, xs, i, v, rfl, rfl, h, e, q⟩)
def kNewL (xs : List V) (H : Hp) (Q : VK) : Prop := xs.length ≤ sizeLine ∧ ∀ p, H p = none → Q (.ref p) (upd H p (.lst xs))
def kNewT (xs : List V) (H : Hp) (Q : VK) : Prop := xs.length ≤ sizeLine ∧ ∀ p, H p = none → Q (.ref p) (upd H p (.tup xs))
theorem r_lst (h : t σ H fun xs H1 => kNewL xs H1 Q) : tLst t σ H Q := h
theorem r_tup (h : t σ H fun xs H1 => kNewT xs H1 Q) : tTup t σ H Q := h
theorem x_newL (s : S F L H) (hl : xs.length ≤ sizeLine) (h : ∀ p H1, S F ((p, .lst xs) :: L) H1 → Q (.ref p) H1) : kNewL xs H Q := ⟨hl, fun p hp => h p _ (s.new hp)⟩
theorem x_newT (s : S F L H) (hl : xs.length ≤ sizeLine) (h : ∀ p H1, S (cel p (.tup xs) :: F) L H1 → Q (.ref p) H1) : kNewT xs H Q := ⟨hl, fun p hp => h p _ (s.newF hp)⟩
theorem x_nL {Q : Addr → Hp → Prop} (s : S F L H) (h : ∀ p H1, S F ((p, .lst xs) :: L) H1 → Q p H1) : ∀ p, H p = none → Q p (upd H p (.lst xs)) := fun p hp => h p _ (s.new hp)
theorem x_nT {Q : Addr → Hp → Prop} (s : S F L H) (h : ∀ p H1, S (cel p (.tup xs) :: F) L H1 → Q p H1) : ∀ p, H p = none → Q p (upd H p (.tup xs)) := fun p hp => h p _ (s.newF hp)
theorem x_lenL (h : SqL K H p xs) (q : Q (.int xs.length) H) : rLenA K [.ref p] H Q := .inl ⟨p, xs, rfl, .inl h, q⟩
theorem x_lenT (h : SqT K H p xs) (q : Q (.int xs.length) H) : rLenA K [.ref p] H Q := .inl ⟨p, xs, rfl, .inr h, q⟩
theorem x_lenS {u : Str} (h : u.length ≤ sizeLine) (q : Q (.int u.length) H) : rLenA K [.str u] H Q := .inr ⟨u, rfl, h, q⟩
theorem x_sumL {ns : List Int} (h : SqL K H p (ns.map V.int)) (q : Q (.int ns.sum) H) : rSumA K [.ref p] H Q := ⟨p, ns, rfl, .inl h, q⟩
theorem x_sumT {ns : List Int} (h : SqT K H p (ns.map V.int)) (q : Q (.int ns.sum) H) : rSumA K [.ref p] H Q := ⟨p, ns, rfl, .inr h, q⟩
theorem max_if : (if j > i then j else i) = max i j := by omega
theorem min_if : (if j < i then j else i) = min i j := by omega
theorem x_max2 (q : Q (.int (max i j)) H) : rMaxA K [.int i, .int j] H Q := .inl ⟨i, j, rfl, by rw [max_if]; exact q⟩
theorem x_min2 (q : Q (.int (min i j)) H) : rMinA K [.int i, .int j] H Q := .inl ⟨i, j, rfl, by rw [min_if]; exact q⟩
theorem x_maxL {ns : List Int} (h : SqL K H p (ns.map V.int)) (h0 : 0 < ns.length) (q : ∀ m, m ∈ ns → (∀ y, y ∈ ns → y ≤ m) → Q (.int m) H) : rMaxA K [.ref p] H Q := .inr ⟨p, ns, rfl, h, h0, q⟩
theorem x_minL {ns : List Int} (h : SqL K H p (ns.map V.int)) (h0 : 0 < ns.length) (q : ∀ m, m ∈ ns → (∀ y, y ∈ ns → m ≤ y) → Q (.int m) H) : rMinA K [.ref p] H Q := .inr ⟨p, ns, rfl, h, h0, q⟩
theorem x_abs (q : Q (.int i.natAbs) H) : rAbs [.int i] H Q := ⟨i, rfl, by rw [show (if i < 0 then -i else i) = (i.natAbs : Int) by omega]; exact q⟩
theorem x_divmod (s : S F L H) (h : CDiv i j) (q : ∀ p H1, S (cel p (.tup [.int (i / j), .int (i % j)]) :: F) L H1 → Q (.ref p) H1) : rDivmod [.int i, .int j] H Q := ⟨i, j, rfl, h, fun p hp => q p _ (s.newF hp)⟩
theorem x_listL (s : S F L H) (h : SqL K H p xs) (q : ∀ l H1, S F ((l, .lst xs) :: L) H1 → Q (.ref l) H1) : rListOf K [.ref p] H Q := ⟨p, xs, rfl, .inl h, fun l hl => q l _ (s.new hl)⟩
theorem x_listT (s : S F L H) (h : SqT K H p xs) (q : ∀ l H1, S F ((l, .lst xs) :: L) H1 → Q (.ref l) H1) : rListOf K [.ref p] H Q := ⟨p, xs, rfl, .inr h, fun l hl => q l _ (s.new hl)⟩
theorem x_tupL (s : S F L H) (h : SqL K H p xs) (q : ∀ l H1, S (cel l (.tup xs) :: F) L H1 → Q (.ref l) H1) : rTupleOf K [.ref p] H Q := ⟨p, xs, rfl, .inl ⟨h, fun l hl => q l _ (s.newF hl)⟩⟩
theorem x_tupT (h : SqT K H p xs) (q : Q (.ref p) H) : rTupleOf K [.ref p] H Q := ⟨p, xs, rfl, .inr ⟨h, q⟩⟩
theorem x_intI (q : Q (.int i) H) : rIntOf [.int i] H Q := .inl ⟨i, rfl, q⟩
theorem x_intB (q : Q (.int (if b then 1 else 0)) H) : rIntOf [.bl b] H Q := .inr ⟨b, rfl, q⟩
theorem x_cat (s : S F L H) (h1 : H p = some (.lst xs)) (h2 : H q = some (.lst ys)) (hl : xs.length + ys.length ≤ sizeLine) (k : ∀ l H1, S F ((l, .lst (xs ++ ys)) :: L) H1 → Q (.ref l) H1) : rAddA K (.ref p) (.ref q) H Q :=
  .inr (.inr (.inl ⟨p, q, xs, ys, rfl, rfl, h1, h2, hl, fun l hl => k l _ (s.new hl)⟩))
/-! methods of lists -/
theorem r_bm {T : String} {r : V → List V → Hp → VK → Prop} (h : ta σ H fun x H1 => tyV K T x H1 ∧ t σ H1 fun xs H2 => r x xs H2 Q) : tBM K T r ta t σ H Q := h
theorem r_bm0 {T : String} {r : V → List V → Hp → VK → Prop} (h : ta σ H fun x H1 => tyV K T x H1 ∧ r x [] H1 Q) : tBM0 K T r ta σ H Q := h
theorem x_tyL {R : Prop} (h : SqL K H p xs) (q : R) : tyV K "list" (.ref p) H ∧ R := ⟨.inl ⟨rfl, _, h⟩, q⟩
theorem x_append (s : S F L H) (h : Put p (.lst xs) (.lst (xs ++ [v])) L L') (hl : xs.length < sizeLine) (q : ∀ H1, S F L' H1 → Q .non H1) : rAppend (.ref p) [v] H Q :=
  ⟨p, xs, v, rfl, rfl, s.at_ h.mem, hl, q _ (s.put h)⟩
theorem x_popAt (s : S F L H) (h : Put p (.lst xs) (.lst (xs.eraseIdx k)) L L') (hi : seqIndex? i xs.length = some k) (hv : xs[k]? = some v) (h1 : -(2 ^ 63) ≤ i) (h2 : i < 2 ^ 63) (q : ∀ H1, S F L' H1 → Q v H1) : rPopAt (.ref p) [.int i] H Q :=
  ⟨p, xs, i, k, v, rfl, rfl, s.at_ h.mem, h1, h2, hi, hv, q _ (s.put h)⟩
/-! tests -/
def kBl (x : V) (Q : Bool → Hp → Prop) (H : Hp) : Prop := ∃ k, x = .bl k ∧ Q k H
theorem r_tst {Q : Bool → Hp → Prop} (h : te σ H fun x H' => kBl x Q H') : tTest te σ H Q := h
theorem r_tB {Q : Bool → Hp → Prop} (h : te σ H fun x H' => kBl x Q H') : tB te σ H Q := h
theorem x_bl {Q : Bool → Hp → Prop} (q : Q b H) : kBl (.bl b) Q H := ⟨b, rfl, q⟩
theorem r_and {Q : Bool → Hp → Prop} (h : tt σ H fun c H1 => if c = true then tu σ H1 Q else Q false H1) : tAnd tt tu σ H Q := h
theorem r_or {Q : Bool → Hp → Prop} (h : tt σ H fun c H1 => if c = true then Q true H1 else tu σ H1 Q) : tOr tt tu σ H Q := h
theorem r_not {Q : Bool → Hp → Prop} (h : tt σ H fun c H1 => Q (!c) H1) : tNot tt σ H Q := h
theorem r_andV (h : ta σ H fun x H1 => kBl x (fun c H1 => if c = true then tb σ H1 Q else Q (.bl false) H1) H1) : tAndV ta tb σ H Q := h
theorem r_orV (h : ta σ H fun x H1 => kBl x (fun c H1 => if c = true then Q (.bl true) H1 else tb σ H1 Q) H1) : tOrV ta tb σ H Q := h
theorem r_notV (h : ta σ H fun x H1 => kBl x (fun c H1 => Q (.bl (!c)) H1) H1) : tNotV ta σ H Q := h
theorem r_if (h : tt σ H fun c H1 => if c = true then ta σ H1 Q else tb σ H1 Q) : tIf tt ta tb σ H Q := h
theorem r_chain {r r' : R2} (h : ta σ H fun x H1 => tb σ H1 fun y H2 => r x y H2 fun z H3 => kBl z (fun k H3 => if k = true then tc σ H3 fun w' H4 => r' y w' H4 Q else Q (.bl false) H3) H3) : tChain r r' ta tb tc σ H Q := h
theorem r_yes {Q : Bool → Hp → Prop} (q : Q true H) : tYes σ H Q := q
theorem i_dec {P A B : Prop} [Decidable P] (h1 : P → A) (h2 : ¬ P → B) : if decide P = true then A else B := by
  by_cases h : P
  · rw [decide_eq_true h]; exact iteT (h1 h)
  · rw [decide_eq_false h]; exact iteF (h2 h)
theorem i_ndec {P A B : Prop} [Decidable P] (h1 : ¬ P → A) (h2 : P → B) : if (!decide P) = true then A else B := by
  by_cases h : P
  · rw [decide_eq_true h]; exact iteF (h2 h)
  · rw [decide_eq_false h]; exact iteT (h1 h)
theorem i_nndec {P A B : Prop} [Decidable P] (h1 : P → A) (h2 : ¬ P → B) : if (!!decide P) = true then A else B := by
  rw [Bool.not_not]; exact i_dec h1 h2
theorem i_nt {A B : Prop} (h : B) : if (!true) = true then A else B := iteF h
theorem i_nf {A B : Prop} (h : A) : if (!false) = true then A else B := iteT h
theorem i_b {A B : Prop} (h1 : b = true → A) (h2 : b = false → B) : if b = true then A else B := by
  cases b with
  | true => exact iteT (h1 rfl)
  | false => exact iteF (h2 rfl)
/-! statements -/
theorem r_seq (h : ts { nx := tw D, rt := D.rt, bk := D.bk, ct := D.ct } σ H) : tSeq ts tw D σ H := h
theorem r_next (h : D.nx σ H) : tNext D σ H := h
theorem r_asg (h : te σ H fun v H1 => g v σ H1 D.nx) : tAsg te g D σ H := h
theorem r_drop (h : te σ H fun _ H1 => D.nx σ H1) : tDrop te D σ H := h
theorem r_ret (h : te σ H D.rt) : tRet te D σ H := h
theorem r_retN (h : D.rt .non H) : tRetN D σ H := h
theorem r_ifs (h : tt σ H fun b H1 => if b = true then ts D σ H1 else tw D σ H1) : tIfS tt ts tw D σ H := h
theorem r_cont (h : D.ct σ H) : tCont D σ H := h
theorem r_brk (h : D.bk σ H) : tBreak D σ H := h
inductive SetAt (v : V) : Nat → Sl → Sl → Prop where
  | zero {x r} : SetAt v 0 (x :: r) (some v :: r)
  | succ {n x r r'} : SetAt v n r r' → SetAt v (n + 1) (x :: r) (x :: r')
theorem SetAt.eq {n : Nat} (h : SetAt v n σ σ') : σ.set n (some v) = σ' := by
  induction h with
  | zero => rfl
  | succ _ ih => rw [List.set_cons_succ, ih]
theorem r_gname {Q : Sl → Hp → Prop} (h : SetAt v n σ σ') (q : Q σ' H) : gName n v σ H Q := by
  show Q (σ.set n (some v)) H
  rw [h.eq]; exact q
theorem r_set {Q : Sl → Hp → Prop} (h : SetAt v n σ σ') (q : Q σ' H) : Q (σ.set n (some v)) H := by
  rw [h.eq]; exact q
def kSet (n : Nat) (v : V) (σ : Sl) (Q : Sl → Hp → Prop) (H : Hp) : Prop := Q (σ.set n (some v)) H
theorem x_kset {Q : Sl → Hp → Prop} (h : SetAt v n σ σ') (q : Q σ' H) : kSet n v σ Q H := r_set h q
theorem r_aug {ti : TIp} (h : σ[n]? = some (some x)) (q : ta σ H fun y H1 => ti x y H1 fun z H2 => kSet n z σ D.nx H2) : tAug n ta ti D σ H := ⟨x, h, q⟩
theorem x_ipI {f : Int → Int → Int} (q : Q (.int (f i j)) H) : ipI f (.int i) (.int j) H Q := ⟨i, j, rfl, rfl, q⟩
theorem r_gtup {n : Nat} {Q : Sl → Hp → Prop} (h : SqT K H p xs) (hl : xs.length = n) (q : gs xs σ H Q) : gTup K n gs (.ref p) σ H Q := ⟨p, xs, rfl, h, hl, q⟩
theorem r_gcons {Q : Sl → Hp → Prop} {gt : TGs} (h : g v σ H fun σ' H' => gt xs σ' H' Q) : gCons g gt (v :: xs) σ H Q := ⟨v, xs, rfl, h⟩
theorem r_gnil {Q : Sl → Hp → Prop} (q : Q σ H) : gNil [] σ H Q := ⟨rfl, q⟩
def kPar (n m : Nat) (vs : List V) (σ : Sl) (Q : Sl → Hp → Prop) (H : Hp) : Prop := ∃ v w, vs = [v, w] ∧ Q ((σ.set n (some v)).set m (some w)) H
theorem r_par {n m : Nat} (h : t σ H fun vs H1 => kPar n m vs σ D.nx H1) : tPar n m t D σ H := h
theorem x_par {Q : Sl → Hp → Prop} {σ2 : Sl} {n m : Nat} {w : V} (h : SetAt v n σ σ') (h2 : SetAt w m σ' σ2) (q : Q σ2 H) : kPar n m [v, w] σ Q H := ⟨v, w, rfl, by rw [h.eq, h2.eq]; exact q⟩
def rSub (o i : TE) (r : TSet) (v : V) (σ : Sl) (H : Hp) (Q : Hp → Prop) : Prop := o σ H fun x H1 => i σ H1 fun y H2 => r x y v H2 Q
theorem r_gsub {to ti : TE} {r : TSet} {Q : Sl → Hp → Prop} (h : to σ H fun o H1 => ti σ H1 fun i H2 => r o i v H2 fun H3 => Q σ H3) : gSub to ti r v σ H Q := h
theorem x_setL {Q : Hp → Prop} (s : S F L H) (h : Put p (.lst xs) (.lst (xs.set k v)) L L') (hi : ixN xs.length i = some k) (q : ∀ H1, S F L' H1 → Q H1) : rSetL (.ref p) (.int i) v H Q :=
  ⟨p, xs, i, k, rfl, rfl, s.at_ h.mem, hi, q _ (s.put h)⟩
/-- the ends, opened -/
theorem e_nx {nx rt bk ct} (h : (nx : Sl → Hp → Prop) σ H) : Ends.nx ⟨nx, rt, bk, ct⟩ σ H := h
theorem e_rt {nx rt bk ct} (h : (rt : VK) v H) : Ends.rt ⟨nx, rt, bk, ct⟩ v H := h
theorem e_bk {nx rt bk ct} (h : (bk : Sl → Hp → Prop) σ H) : Ends.bk ⟨nx, rt, bk, ct⟩ σ H := h
theorem e_ct {nx rt bk ct} (h : (ct : Sl → Hp → Prop) σ H) : Ends.ct ⟨nx, rt, bk, ct⟩ σ H := h
/-! loops -/
def kFor (J : It) (g : TG) (tb : TS) (D : Ends) (σ : Sl) (H1 : Hp) : Prop := ∃ W : Nat → Nat → Sl → Hp → Prop, (∃ m, W 0 m σ H1) ∧ ∀ i m σ H, W i m σ H →
  (J.stop i H ∧ D.nx σ H) ∨ (J.go i H ∧ ∃ N : Sl → Hp → Prop, (∀ σ' H', N σ' H' → ∃ m', m' < m ∧ W (i + 1) m' σ' H') ∧ ∀ x H', J.yld i H x H' → g x σ H' fun σ2 H2 => tb { D with nx := N, ct := N, bk := D.nx } σ2 H2)
theorem r_for {wi : TI} (h : wi σ H fun J H1 => kFor J g ts D σ H1) : tFor wi g ts D σ H := h
def kRng1 (vs : List V) (R : It → Hp → Prop) (H : Hp) : Prop := ∃ j : Int, vs = [.int j] ∧ -(2 ^ 62) ≤ j ∧ j < 2 ^ 62 ∧ R (Itr 0 j.toNat) H
def kRng2 (vs : List V) (R : It → Hp → Prop) (H : Hp) : Prop := ∃ i j : Int, vs = [.int i, .int j] ∧ (-(2 ^ 62) ≤ i ∧ i < 2 ^ 62 ∧ -(2 ^ 62) ≤ j ∧ j < 2 ^ 62) ∧ R (Itr i (j - i).toNat) H
theorem r_rng1 {R : It → Hp → Prop} (h : t σ H fun vs H1 => kRng1 vs R H1) : iRng1 t σ H R := h
theorem r_rng2 {R : It → Hp → Prop} (h : t σ H fun vs H1 => kRng2 vs R H1) : iRng2 t σ H R := h
theorem x_rng1 {R : It → Hp → Prop} (h1 : -(2 ^ 62) ≤ j) (h2 : j < 2 ^ 62) (q : R (Itr 0 j.toNat) H) : kRng1 [.int j] R H := ⟨j, rfl, h1, h2, q⟩
theorem x_rng2 {R : It → Hp → Prop} (h : -(2 ^ 62) ≤ i ∧ i < 2 ^ 62 ∧ -(2 ^ 62) ≤ j ∧ j < 2 ^ 62) (q : R (Itr i (j - i).toNat) H) : kRng2 [.int i, .int j] R H := ⟨i, j, rfl, h, q⟩
def kIl (K : PySem.W.Frag) (x : V) (R : It → Hp → Prop) (H : Hp) : Prop := ∃ a, x = .ref a ∧ (∃ xs, SqL K H a xs) ∧ R (Itl K a) H
def kIt (K : PySem.W.Frag) (x : V) (R : It → Hp → Prop) (H : Hp) : Prop := ∃ a, x = .ref a ∧ (∃ xs, SqT K H a xs) ∧ R (Itt K a) H
theorem r_il {R : It → Hp → Prop} (h : ta σ H fun x H1 => kIl K x R H1) : iList K ta σ H R := h
theorem r_it {R : It → Hp → Prop} (h : ta σ H fun x H1 => kIt K x R H1) : iTup K ta σ H R := h
theorem x_il {R : It → Hp → Prop} (h : SqL K H p xs) (q : R (Itl K p) H) : kIl K (.ref p) R H := ⟨p, rfl, ⟨xs, h⟩, q⟩
theorem x_it {R : It → Hp → Prop} (h : SqT K H p xs) (q : R (Itt K p) H) : kIt K (.ref p) R H := ⟨p, rfl, ⟨xs, h⟩, q⟩
theorem k_range {lo : Int} {n : Nat} (I : Nat → Sl → Hp → Prop) (h0 : I 0 σ H) (hs : ∀ i σ H, i < n → I i σ H → g (.int (lo + i)) σ H fun σ2 H2 => ts { nx := I (i + 1), rt := D.rt, ct := I (i + 1), bk := D.nx } σ2 H2) (hd : ∀ σ H, I n σ H → D.nx σ H) : kFor (Itr lo n) g ts D σ H :=
  for_range I h0 hs hd
theorem k_list (xs : List V) (I : Nat → Sl → Hp → Prop) (h0 : I 0 σ H) (hl : ∀ i σ H, i ≤ xs.length → I i σ H → SqL K H a xs) (hs : ∀ i x σ H, xs[i]? = some x → I i σ H → g x σ H fun σ2 H2 => ts { nx := I (i + 1), rt := D.rt, ct := I (i + 1), bk := D.nx } σ2 H2) (hd : ∀ σ H, I xs.length σ H → D.nx σ H) : kFor (Itl K a) g ts D σ H :=
  for_list I h0 hl hs hd
theorem k_tup (xs : List V) (I : Nat → Sl → Hp → Prop) (h0 : I 0 σ H) (hl : ∀ i σ H, i ≤ xs.length → I i σ H → SqT K H a xs) (hs : ∀ i x σ H, xs[i]? = some x → I i σ H → g x σ H fun σ2 H2 => ts { nx := I (i + 1), rt := D.rt, ct := I (i + 1), bk := D.nx } σ2 H2) (hd : ∀ σ H, I xs.length σ H → D.nx σ H) : kFor (Itt K a) g ts D σ H :=
  for_tup I h0 hl hs hd
/-- while, by a word with a measure -/
theorem k_while (W : Nat → Sl → Hp → Prop) (m : Nat) (h0 : W m σ H) (hs : ∀ m σ H, W m σ H → tt σ H fun b H1 => if b = true then ts { nx := fun σ' H' => ∃ m', m' < m ∧ W m' σ' H', rt := D.rt, ct := fun σ' H' => ∃ m', m' < m ∧ W m' σ' H', bk := D.nx } σ H1 else D.nx σ H1)
    (mono : ∀ σ H Q Q', (∀ b H1, Q b H1 → Q' b H1) → tt σ H Q → tt σ H Q') : tWhile tt ts D σ H := by
  refine ⟨W, ⟨m, h0⟩, fun m σ H hw => ?_⟩
  refine mono σ H _ _ (fun b H1 q => ?_) (hs m σ H hw)
  cases b with
  | true => exact ⟨fun σ' H' => ∃ m', m' < m ∧ W m' σ' H', fun _ _ z => z, q⟩
  | false => exact q
/-- as k_while, the test told apart: what it is, its heap -/
theorem k_whileT (W : Nat → Sl → Hp → Prop) (m : Nat) (h0 : W m σ H)
    (hs : ∀ m σ H (G : Bool → Hp → Prop), W m σ H → (∀ H1, (ts { nx := fun σ' H' => ∃ m', m' < m ∧ W m' σ' H', rt := D.rt, ct := fun σ' H' => ∃ m', m' < m ∧ W m' σ' H', bk := D.nx } σ H1) → G true H1) → (∀ H1, D.nx σ H1 → G false H1) → tt σ H G) : tWhile tt ts D σ H := by
  refine ⟨W, ⟨m, h0⟩, fun m σ H hw => ?_⟩
  refine hs m σ H _ hw (fun H1 q => ?_) (fun H1 q => ?_)
  · exact iteT ⟨fun σ' H' => ∃ m', m' < m ∧ W m' σ' H', fun _ _ z => z, q⟩
  · exact iteF q
/-! comprehensions -/
def kLc (J : It) (g : TG) (tt : TT) (te : TE) (vs : List Nat) (σ : Sl) (H1 : Hp) (Q : VK) : Prop := ∀ D, H1 D = none → ∃ W : Nat → Nat → Hp → Prop, (∃ m, W 0 m (upd H1 D (.lst []))) ∧ ∀ i m H, W i m H →
  (J.stop i H ∧ Q (.ref D) H) ∨ (J.go i H ∧ ∃ Nx : Hp → Prop, (∀ H', Nx H' → ∃ m', m' < m ∧ W (i + 1) m' H') ∧ ∀ x H', J.yld i H x H' → g x (wipe σ vs) H' fun σ2 H2 => wipe σ2 vs = wipe σ vs ∧ tt σ2 H2 fun b H3 =>
    if b = true then te σ2 H3 fun y H4 => ∃ acc, H4 D = some (.lst acc) ∧ acc.length < sizeLine ∧ Nx (upd H4 D (.lst (acc ++ [y]))) else Nx H3)
theorem r_lc {wi : TI} {vs : List Nat} (h : wi σ H fun J H1 => kLc J g tt te vs σ H1 Q) : tLc wi g tt te vs σ H Q := h
/-- what a turn that gives y must show -/
def kEnd (D : Addr) (N : Hp → Prop) (y : V) (H4 : Hp) : Prop := ∃ acc, H4 D = some (.lst acc) ∧ acc.length < sizeLine ∧ N (upd H4 D (.lst (acc ++ [y])))
theorem x_kend {N : Hp → Prop} {acc : List V} (s : S F L H) (h : Put p (.lst acc) (.lst (acc ++ [y])) L L') (hl : acc.length < sizeLine) (q : ∀ H1, S F L' H1 → N H1) : kEnd p N y H := ⟨acc, s.at_ h.mem, hl, q _ (s.put h)⟩
inductive NonAt : Nat → Sl → Sl → Prop where
  | zero {x r} : NonAt 0 (x :: r) (none :: r)
  | succ {n x r r'} : NonAt n r r' → NonAt (n + 1) (x :: r) (x :: r')
theorem NonAt.eq {n : Nat} {σ σ' : Sl} (h : NonAt n σ σ') : σ.set n none = σ' := by
  induction h with
  | zero => rfl
  | succ _ ih => rw [List.set_cons_succ, ih]
inductive Wip : List Nat → Sl → Sl → Prop where
  | nil {u : Sl} : Wip [] u u
  | cons {m : Nat} {vs : List Nat} {u u1 u2 : Sl} : Wip vs u u1 → NonAt m u1 u2 → Wip (m :: vs) u u2
theorem Wip.eq {vs : List Nat} {σ σ' : Sl} (h : Wip vs σ σ') : wipe σ vs = σ' := by
  induction h with
  | nil => rfl
  | cons _ h2 ih => show (wipe _ _).set _ none = _; rw [ih, h2.eq]
def kWip (vs : List Nat) (σw σ2 : Sl) (R : Prop) : Prop := wipe σ2 vs = σw ∧ R
theorem x_wip {vs : List Nat} {σw σ2 : Sl} {R : Prop} (h : Wip vs σ2 σw) (q : R) : kWip vs σw σ2 R := ⟨h.eq, q⟩
theorem k_lcR {lo : Int} {n : Nat} {vs : List Nat} {σw : Sl} (hw : Wip vs σ σw) (s : S F L H) (I : Addr → Nat → Hp → Prop) (h0 : ∀ l H1, S F ((l, .lst []) :: L) H1 → I l 0 H1)
    (hs : ∀ l i H1, i < n → I l i H1 → g (.int (lo + i)) σw H1 fun σ2 H2 => kWip vs σw σ2 (tt σ2 H2 fun b H3 => if b = true then te σ2 H3 (kEnd l (I l (i + 1))) else I l (i + 1) H3))
    (hd : ∀ l H1, I l n H1 → Q (.ref l) H1) : kLc (Itr lo n) g tt te vs σ H Q := fun l hl => by
  have e := hw.eq
  subst e
  exact lc_range (fun i H' => I l i H') (h0 l _ (s.new hl)) (fun i H1 hi p => hs l i H1 hi p) (fun H1 p => hd l H1 p)
theorem k_lcL {vs : List Nat} {σw : Sl} (xs : List V) (hw : Wip vs σ σw) (s : S F L H) (I : Addr → Nat → Hp → Prop) (h0 : ∀ l H1, S F ((l, .lst []) :: L) H1 → I l 0 H1) (hq : ∀ l i H1, i ≤ xs.length → I l i H1 → SqL K H1 a xs)
    (hs : ∀ l i x H1, xs[i]? = some x → I l i H1 → g x σw H1 fun σ2 H2 => kWip vs σw σ2 (tt σ2 H2 fun b H3 => if b = true then te σ2 H3 (kEnd l (I l (i + 1))) else I l (i + 1) H3))
    (hd : ∀ l H1, I l xs.length H1 → Q (.ref l) H1) : kLc (Itl K a) g tt te vs σ H Q := fun l hl => by
  have e := hw.eq
  subst e
  exact lc_list (fun i H' => I l i H') (h0 l _ (s.new hl)) (fun i H1 hi p => hq l i H1 hi p) (fun i x H1 hi p => hs l i x H1 hi p) (fun H1 p => hd l H1 p)
theorem k_lcT {vs : List Nat} {σw : Sl} (xs : List V) (hw : Wip vs σ σw) (s : S F L H) (I : Addr → Nat → Hp → Prop) (h0 : ∀ l H1, S F ((l, .lst []) :: L) H1 → I l 0 H1) (hq : ∀ l i H1, i ≤ xs.length → I l i H1 → SqT K H1 a xs)
    (hs : ∀ l i x H1, xs[i]? = some x → I l i H1 → g x σw H1 fun σ2 H2 => kWip vs σw σ2 (tt σ2 H2 fun b H3 => if b = true then te σ2 H3 (kEnd l (I l (i + 1))) else I l (i + 1) H3))
    (hd : ∀ l H1, I l xs.length H1 → Q (.ref l) H1) : kLc (Itt K a) g tt te vs σ H Q := fun l hl => by
  have e := hw.eq
  subst e
  exact lc_tup (fun i H' => I l i H') (h0 l _ (s.new hl)) (fun i H1 hi p => hq l i H1 hi p) (fun i x H1 hi p => hs l i x H1 hi p) (fun H1 p => hd l H1 p)
/-! cells by what is known -/
theorem s_cel {o : HO} (s : S F L H) (h : cel p o ∈ F) : H p = some o := s.phi h
theorem sqT_mono {E E' : Hp} (e : Same E E') (h : SqT K E p xs) : SqT K E' p xs := by
  rcases h with (h | ⟨o, h⟩) | h
  · exact .inl (.inl (e _ _ h))
  · exact .inl (.inr ⟨o, e _ _ h⟩)
  · exact .inr h
theorem sqL_mono {E E' : Hp} (e : Same E E') (h : SqL K E p xs) : SqL K E' p xs := e.seq h
end
/-- a tuple, a list that stays -/
def tuF (K : PySem.W.Frag) (p : Addr) (xs : List V) : MP := ⟨fun E => SqT K E p xs, fun _ _ e h => sqT_mono e h⟩
def liF (K : PySem.W.Frag) (p : Addr) (xs : List V) : MP := ⟨fun E => SqL K E p xs, fun _ _ e h => sqL_mono e h⟩
section
variable {K : PySem.W.Frag} {F : List MP} {L : List (Addr × HO)} {H : Hp} {p : Addr} {xs : List V}
theorem q_L1 (s : S F L H) (h : (p, .lst xs) ∈ L) : SqL K H p xs := SqL.of (s.at_ h)
theorem q_L2 (s : S F L H) (h : cel p (.lst xs) ∈ F) : SqL K H p xs := SqL.of (s_cel s h)
theorem q_L3 (s : S F L H) (h : liF K p xs ∈ F) : SqL K H p xs := s.phi h
theorem q_T2 (s : S F L H) (h : cel p (.tup xs) ∈ F) : SqT K H p xs := SqT.of (s_cel s h)
theorem q_T3 (s : S F L H) (h : tuF K p xs ∈ F) : SqT K H p xs := s.phi h
theorem sz_of {n : Nat} (h : n ≤ 1000000) : n ≤ sizeLine := Nat.le_trans h (by decide)
theorem sz_lt {n : Nat} (h : n < 1000000) : n < sizeLine := Nat.lt_of_lt_of_le h (by decide)
theorem cmul_l {i j : Int} (h1 : -18446744073709551616 < i) (h2 : i < 18446744073709551616) : CMul i j := .inl ⟨h1, h2⟩
theorem cmul_r {i j : Int} (h1 : -18446744073709551616 < j) (h2 : j < 18446744073709551616) : CMul i j := .inr ⟨h1, h2⟩
theorem cdivw {i j : Int} (h : 0 < j) (h2 : j < 18446744073709551616) : CDivW i j := wide_div (b := 64) h (by omega) (by decide) (by decide)
theorem cdiv {i j : Int} (h : 0 < j) (h2 : j < 1073741824) : CDiv i j := ⟨h, h2⟩
end
/-! places of lists -/
inductive SetL (v : V) : Nat → List V → List V → Prop where
  | zero {x r} : SetL v 0 (x :: r) (v :: r)
  | succ {n x r r'} : SetL v n r r' → SetL v (n + 1) (x :: r) (x :: r')
theorem SetL.eq {v : V} {n : Nat} {xs ys : List V} (h : SetL v n xs ys) : xs.set n v = ys ∧ n < xs.length := by
  induction h with
  | zero => exact ⟨rfl, Nat.succ_pos _⟩
  | succ _ ih => exact ⟨by rw [List.set_cons_succ, ih.1], Nat.succ_lt_succ ih.2⟩
inductive NthL : Nat → List V → V → Prop where
  | zero {x r} : NthL 0 (x :: r) x
  | succ {n x r y} : NthL n r y → NthL (n + 1) (x :: r) y
theorem NthL.eq {v : V} {n : Nat} {xs : List V} (h : NthL n xs v) : xs[n]? = some v := by
  induction h with
  | zero => rfl
  | succ _ ih => exact ih
inductive EraL : Nat → List V → V → List V → Prop where
  | zero {x r} : EraL 0 (x :: r) x r
  | succ {n x r y r'} : EraL n r y r' → EraL (n + 1) (x :: r) y (x :: r')
theorem EraL.eq {v : V} {n : Nat} {xs ys : List V} (h : EraL n xs v ys) : xs.eraseIdx n = ys ∧ xs[n]? = some v := by
  induction h with
  | zero => exact ⟨rfl, rfl⟩
  | succ _ ih => exact ⟨by rw [List.eraseIdx_cons_succ, ih.1], ih.2⟩
theorem ixN_lt {n j : Nat} (hj : j < n) : ixN n (j : Int) = some j := by
  unfold ixN
  rw [if_pos (by omega), if_pos (by omega)]
  simp
section
variable {K : PySem.W.Frag} {H : Hp} {Q : VK} {v y : V} {i : Int} {k : Nat} {p : Addr} {xs ys : List V} {F : List MP} {L L' : List (Addr × HO)}
theorem y_ixL (h : SqL K H p xs) (e : i = (k : Int)) (n : NthL k xs v) (q : Q v H) : rIx K (.ref p) (.int i) H Q := by
  subst e
  exact x_ixL h (atI_nat n.eq) q
theorem y_ixT (h : SqT K H p xs) (e : i = (k : Int)) (n : NthL k xs v) (q : Q v H) : rIx K (.ref p) (.int i) H Q := by
  subst e
  exact x_ixT h (atI_nat n.eq) q
theorem y_setL {Q : Hp → Prop} (s : S F L H) (h : Put p (.lst xs) (.lst ys) L L') (e : i = (k : Int)) (n : SetL v k xs ys) (q : ∀ H1, S F L' H1 → Q H1) : rSetL (.ref p) (.int i) v H Q := by
  obtain ⟨e1, e2⟩ := n.eq
  subst e e1
  exact x_setL s h (ixN_lt e2) q
theorem y_popAt (s : S F L H) (h : Put p (.lst xs) (.lst ys) L L') (e : i = (k : Int)) (hk : k < 1000000) (n : EraL k xs v ys) (q : ∀ H1, S F L' H1 → Q v H1) : rPopAt (.ref p) [.int i] H Q := by
  obtain ⟨e1, e2⟩ := n.eq
  subst e e1
  exact x_popAt s h (ixN_seq (ixN_lt (List.getElem?_eq_some_iff.mp e2).1)).1 e2 (by omega) (by omega) q
end
end TW
namespace TW
open PySem PySem.Spec PyProof.Rows L2
/-! ### the drawn numbers -/
/-- the source of numbers -/
def DOK (D : List V) : Prop := ∃ (s c : Int) (bs : List Int), D = .int s :: .int c :: bs.map V.int ∧ 0 ≤ s ∧ s < 2147483647 ∧ 0 ≤ c ∧ (∀ b ∈ bs, 0 ≤ b) ∧ bs.length ≤ 63
def spBelow : Sp := fun vs H Q _ => ∃ (F : List MP) (L L' : List (Addr × HO)) (d : Addr) (D : List V) (l : Int), vs = [.ref d, .int l] ∧ 0 < l ∧ l < 18446744073709551616 ∧ DOK D ∧ Pull (d, .lst D) L L' ∧ S F L H ∧
  ∀ (r : Int) (D' : List V) (H' : Hp), 0 ≤ r → r < l → DOK D' → S F ((d, .lst D') :: L') H' → Q (.int r) H'
theorem seqIx2 {n : Nat} (h : 2 < n) : seqIndex? 2 n = some 2 := by
  have : ixN n 2 = some 2 := by unfold ixN; rw [if_pos (by omega), if_pos (by omega)]; rfl
  exact (ixN_seq this).1
end TW
namespace TW
open PySem PySem.Spec PyProof.Rows L2
/-- a property's object and its getter -/
def prA (K : PySem.W.Frag) (C : Addr) (f : Str) : Addr × Addr := match PySem.W.findIn K (.ref C) f with
  | some (some (.ref p)) => (p, match PySem.W.recIn K p "property" with
    | some (.ref g :: _) => g
    | _ => 0)
  | _ => (0, 0)
section
variable {P : Program} {w : World} {K : PySem.W.Frag} {mg : Str → Option Value} {base : Heap} {CX : CXT} {k : Nat} {x m qual : Str} {ps : List Str} {sp : Sp} {f p C : Addr} {params : Arguments} {body : List Stmt} {scope : Scope}
theorem mk_Df (g : mg x = some (.ref f)) (h : ∃ fd, FunD K x qual params body scope [] [] f fd)
    (hb : ∀ (kV doc pm : Value) (an : Option Addr) (cdv ct : Value) (us : List Value), us.length = ps.length → bindArgs (PySem.W.fnOf x qual params body scope .none kV doc pm an cdv ct) ⟨us, []⟩ = pure (ps.zip us))
    (ok : ∀ fd, FunD K x qual params body scope [] [] f fd → FnOk P w K mg base CX k f fd ps sp) : Df P w K mg base CX k x ps sp := by
  obtain ⟨fd, F⟩ := h
  exact ⟨f, fd, g, F.kp, F.bindsN hb, ok fd F⟩
theorem mk_Dm (c : Cls K C) (g : Meth K C m f) (h : ∃ fd, FunD K m qual params body scope [] [] f fd)
    (hb : ∀ (kV doc pm : Value) (an : Option Addr) (cdv ct : Value) (us : List Value), us.length = ps.length → bindArgs (PySem.W.fnOf m qual params body scope .none kV doc pm an cdv ct) ⟨us, []⟩ = pure (ps.zip us))
    (ok : ∀ fd, FunD K m qual params body scope [] [] f fd → FnOk P w K mg base CX k f fd ps sp) : Dm P w K mg base CX k C m ps sp := by
  obtain ⟨fd, F⟩ := h
  exact ⟨f, fd, c, g, F.bindsN hb, ok fd F⟩
theorem mk_Dp (c : Cls K C) (g : PropOf K C m p f) (h : ∃ fd, FunD K m qual params body scope [] [] f fd)
    (hb : ∀ (kV doc pm : Value) (an : Option Addr) (cdv ct : Value) (us : List Value), us.length = ps.length → bindArgs (PySem.W.fnOf m qual params body scope .none kV doc pm an cdv ct) ⟨us, []⟩ = pure (ps.zip us))
    (ok : ∀ fd, FunD K m qual params body scope [] [] f fd → FnOk P w K mg base CX k f fd ps sp) : Dpr P w K mg base CX k C m ps sp := by
  obtain ⟨fd, F⟩ := h
  exact ⟨f, fd, p, c, g, F.bindsN hb, ok fd F⟩
theorem mk_Dk (g : mg x = some (.ref C)) (M : Mk K C f) (h : ∃ fd, FunD K "__init__" qual params body scope [] [] f fd)
    (hb : ∀ (kV doc pm : Value) (an : Option Addr) (cdv ct : Value) (us : List Value), us.length = ps.length → bindArgs (PySem.W.fnOf "__init__" qual params body scope .none kV doc pm an cdv ct) ⟨us, []⟩ = pure (ps.zip us))
    (ok : ∀ fd, FunD K "__init__" qual params body scope [] [] f fd → FnOk P w K mg base CX k f fd ps sp) : Dk P w K mg base CX k C x ps sp := by
  obtain ⟨fd, F⟩ := h
  exact ⟨f, fd, g, M, F.bindsN hb, ok fd F⟩
end
section
variable {X : Cx} {K : PySem.W.Frag} {x m : Str} {i : Int} {z : Str} {a : Addr} {pos pos' : Pos} {es : List Expr} {e o : Expr} {te ta tv : TE} {n k : Nat} {t : TGs}
theorem d_gint (h : ∃ t, X.mg x = some (.int i t)) (hg : Gl X x := by rfl) (hd : (x == ("__debug__" : Str)) = false := by decide) : PE X (.Name x pos) (tC (.int i)) := by
  obtain ⟨t, h⟩ := h
  exact pe_glob (hd := hd) hg h ⟨t, rfl⟩
theorem d_gstr (h : ∃ t, X.mg x = some (.str z t)) (hg : Gl X x := by rfl) (hd : (x == ("__debug__" : Str)) = false := by decide) : PE X (.Name x pos) (tC (.str z)) := by
  obtain ⟨t, h⟩ := h
  exact pe_glob (hd := hd) hg h ⟨t, rfl⟩
theorem d_gref (h : X.mg x = some (.ref a)) (hg : Gl X x := by rfl) (hd : (x == ("__debug__" : Str)) = false := by decide) : PE X (.Name x pos) (tC (.ref a)) := pe_glob (hd := hd) hg h rfl
theorem d_ty {T : String} (hg : Gl X x) (hm : X.mg x = none) (hv : bootBuiltins x = some (.type T)) (hn : x ≠ "__name__" := by decide) (hd : (x == ("__debug__" : Str)) = false := by decide) : PE X (.Name x pos) (tC (.ty T)) := pe_bltn (hn := hn) (hd := hd) hg hm hv rfl
theorem d_gtup (K) (hn : (assignEach es X.env).length = n) (h : PGs X es t) (hc : X.calm = true := by rfl) (hst : (assignEach es X.env).findIdx? (·.1) = none := by rfl) (hK : X.K = K := by rfl) : PG X (.Tuple es k pos) (gTup K n t) := by
  subst hK; exact pg_tup hc h hn hst
theorem d_sfld (K) (ha : PE X o ta) (hv : PE X e tv) (hs : swapsWith e (some (.Attribute o m pos')) pos.line X.env = pure false := by rfl) (hK : X.K = K := by rfl) : PS X (.Assign [.Attribute o m pos'] e pos) (sFld K ta tv m) := by
  subst hK; exact ps_fld ha hv hs
theorem d_bm (K) {T : String} {name : Str} {id : String} {r : V → List V → Hp → VK → Prop} {apos : Pos} {tA : TA} (pa : PlainAttrs T) (slot : Slot T name id) (hty : typeOf (.builtin id) = pure (.type "method_descriptor")) (hm : MtR X id r) (ho : PE X o ta) (ha : PA X (e :: es) tA)
    (hbase : attributeBase o name X.env (eval o X.env) = eval o X.env := by rfl)
    (hfew : ((backTo pos (starEach (e :: es) X.env)).all (fun x => !x.1) && (backToKw pos (keywordEach [] X.env)).all (fun x => x.1.isSome)
      && decide ((e :: es).length + ([] : List Keyword).length + (if ([] : List Keyword).isEmpty then 0 else 1) < 30)) = true := by rfl)
    (hline : (apos.endLine == pos.line) = true := by rfl) (hs : starEach (e :: es) X.env = (false, eval e X.env) :: starEach es X.env := by rfl) (hplain : (backTo pos (starEach es X.env)).any (·.1) = false := by rfl) (hK : X.K = K := by rfl) :
    PE X (.Call (.Attribute o name apos) (e :: es) [] pos) (tBM K T r ta tA) := by
  subst hK; exact pe_bm pa slot hty hm ho ha hbase hfew hline hs hplain
theorem d_bm0 (K) {T : String} {name : Str} {id : String} {r : V → List V → Hp → VK → Prop} {apos : Pos} (pa : PlainAttrs T) (slot : Slot T name id) (hty : typeOf (.builtin id) = pure (.type "method_descriptor")) (hm : MtR X id r) (ho : PE X o ta)
    (hbase : attributeBase o name X.env (eval o X.env) = eval o X.env := by rfl) (hline : (apos.endLine == pos.line) = true := by rfl) (hK : X.K = K := by rfl) :
    PE X (.Call (.Attribute o name apos) [] [] pos) (tBM0 K T r ta) := by
  subst hK; exact pe_bm0 pa slot hty hm ho hbase hline
theorem d_ilist (K) {tg : Expr} (h : PE X e te) (hK : X.K = K := by rfl) : PI X tg e (iList K te) := by subst hK; exact pi_list h
theorem d_itup (K) {tg : Expr} (h : PE X e te) (hK : X.K = K := by rfl) : PI X tg e (iTup K te) := by subst hK; exact pi_tup h
theorem r_start {N : List Str} {vs : List V} {u : L2.St} {t : TS} {D : Ends} {H : Hp} (e : start N vs = u) (h : t D u H) : t D (start N vs) H := by rw [e]; exact h
end
end TW
/-! enumerate of a tuple, in a for -/
namespace TW
open PySem PySem.Spec PyProof.Rows L2
open Sem (wp)
theorem meets_enum1 {v : Value} {o : Obj} {G : Heap → Prop} (B : Begins v o G) :
    Meets (Builtin.«enumerate.__new__» ⟨[.type "enumerate", v], []⟩) (fun _ R s => G s.heap ∧
      R (.ok (.ret (.ref (s.heap.push o).objs.size))) { s with heap := (s.heap.push o).push { cls := .type "enumerate", data := .fields #[.none, .bool false, .ref s.heap.objs.size, rawInt 0, .none, .none] } }) :=
  .of_wp fun prog w A R s h => by
    obtain ⟨hp, g, d, tk, os⟩ := s
    obtain ⟨hG, h⟩ := h
    have hs := sub_enumerate
    have itr : ∀ {A' : Around} {E : Value → Shared → Prop} {Q : Value → Shared → Prop}, Q (.ref hp.objs.size) ⟨hp.push o, g, d, tk, os⟩ → wpAny (model prog w) A' (pyIter v) Q E ⟨hp, g, d, tk, os⟩ :=
      fun q => B.iter prog w _ _ ⟨hp, g, d, tk, os⟩ _ hG q
    wp_walk using itr
    refine wpAny_stack_any fun st => wpAny_pure ?_
    split
    · rename_i k1 _ _ _ _ _
      cases (k1 == Value.type "enumerate") <;> (wp_walk using itr; exact ⟨_, rfl, h⟩)
    · wp_walk using itr
      exact ⟨_, rfl, h⟩
theorem call_enum1 {prog : Program} {w : World} {A : Around} {E : Value → Shared → Prop} {s : Shared} {v : Value} {o : Obj} {G : Heap → Prop} {Q : Value → Shared → Prop} (B : Begins v o G) (hG : G s.heap)
    (h : ∀ h', IsEnum h' (s.heap.objs.size + 1) s.heap.objs.size 0 .none → h'.get? s.heap.objs.size = some o → (∀ b u, s.heap.get? b = some u → h'.get? b = some u) → Q (.ref (s.heap.objs.size + 1)) { s with heap := h' }) :
    wpAny (model prog w) A (call (.type "enumerate") [v]) Q E s := by
  refine callType_new F.called_enumerate (by decide) (F.typeCall_enumerate_1 _) (F.newCall_enumerate_1 _) (fun ob => F.args_object_init_2 ob _) F.entry_enumerate_new (meets_enum1 B) ⟨hG, ?_⟩
  have z1 : (s.heap.push o).objs.size = s.heap.objs.size + 1 := Heap.size_push ..
  show _ ∧ _
  rw [z1]
  have e1 : IsEnum ((s.heap.push o).push { cls := .type "enumerate", data := .fields #[.none, .bool false, .ref s.heap.objs.size, rawInt 0, .none, .none] }) (s.heap.objs.size + 1) s.heap.objs.size 0 .none := by
    have z2 := Heap.get?_push_size (s.heap.push o) (o := { cls := .type "enumerate", data := .fields #[.none, .bool false, .ref s.heap.objs.size, rawInt 0, .none, .none] }) rfl
    rw [z1] at z2
    exact z2
  exact ⟨⟨_, e1, rfl⟩, h _ e1 (Heap.get?_push_of_some _ (Heap.get?_push_size _ B.free)) fun b u x => Heap.get?_push_of_some _ (Heap.get?_push_of_some _ x)⟩
/-- the tuple at a as it stands at each turn, each item in a new pair -/
def ItE (K : PySem.W.Frag) (a : Addr) : It :=
  ⟨fun i H => ∃ (xs : List V) (x : V), SqT K H a xs ∧ xs[i]? = some x,
   fun i H v H' => ∃ q x, v = .ref q ∧ H q = none ∧ H' = upd H q (.tup [.int (i : Nat), x]) ∧ ∀ xs, SqT K H a xs → xs[i]? = some x,
   fun i H => ∃ xs : List V, SqT K H a xs ∧ xs.length = i⟩
theorem turn_enumT {P : Program} {w : World} {K : PySem.W.Frag} {elts : List Expr} {kk : Nat} {tpos : Pos} (a e it : Addr) :
    Turn P w K (.Tuple elts kk tpos) (ItE K a) [e, it] e (fun i h => (∃ old, IsEnum h e it ((i : Nat) : Int) old) ∧ h.IsTupleIter it a i ∧ e ≠ it ∧ e ≠ a ∧ a ≠ it) where
  mem := by simp
  obj := fun i h st b hb => by
    obtain ⟨⟨old, he⟩, ⟨o, ho, hc, hd⟩, _⟩ := st
    have e' : b = e ∨ b = it := by simpa using hb
    rcases e' with z | z
    · rw [z]; exact ⟨_, he, fun v q => nomatch q⟩
    · rw [z]; exact ⟨o, ho, fun v q => by rw [hd] at q; cases q⟩
  keep := fun i h h' st k => by
    obtain ⟨⟨old, he⟩, hi, hne⟩ := st
    exact ⟨⟨old, k e (by simp) _ he⟩, hi.at fun o q => k it (by simp) o q, hne⟩
  item := by
    intro X hP hw hK hc i pins s σ H E I hf st hg
    subst hP hw hK
    obtain ⟨⟨old, he⟩, hit, hne, hea, hai⟩ := st
    obtain ⟨xs, x, hq, hx⟩ := hg
    obtain ⟨its, rv, p, hz⟩ := I.tuple hq
    have hel : e < s.heap.objs.size := Heap.lt_size he
    have hil : it < s.heap.objs.size := by obtain ⟨_, q, _⟩ := hit; exact Heap.lt_size q
    obtain ⟨u, hu, ru⟩ := rv.get hx
    have hlt : i < its.toArray.size := by
      have := (List.getElem?_eq_some_iff.mp hu).1
      simpa using this
    refine wpAny_pyNext_enum_itemD (Draws.tuple (A := X.A.in1) (I.ok.hd hc) it a hai its.toArray) he ⟨hit, p⟩ hlt hne (by simp; exact ⟨hne, hea⟩) fun x' h' tk hx' ho hst' hT hsz hk => ?_
    have ex : x' = u := by
      have h1 : its[i]? = some x' := by simpa using hx'
      rw [hu] at h1
      exact (Option.some.inj h1).symm
    subst ex
    refine ⟨_, rfl, wpAny_letOwnedTupleGo_enum (s := { s with heap := h', toks := tk + 1 }) ho fun h'' he' sb => ?_⟩
    have hT2 : h''.get? s.heap.objs.size = some { cls := .type "tuple", data := .seq #[.int i tk, x'] } := (sb.2 _ (Nat.ne_of_gt hel)).trans hT
    have new : ObjOk X.prog X.w (upd H s.heap.objs.size (.tup [.int (i : Nat), x])) h'' s.heap.objs.size (.tup [.int (i : Nat), x]) :=
      ⟨by show 2 ≤ sizeLine; decide, [.int i tk, x'], .cons ⟨_, rfl⟩ (.cons ru .nil), ⟨_, hT2, rfl, _, rfl⟩⟩
    have I1 : Inv X pins σ (upd H s.heap.objs.size (.tup [.int (i : Nat), x])) { s with heap := h'', toks := tk + 1 } :=
      I.turnedNew (ch := [e, it]) (fun b ob hb q => (sb.2 b (fun z => hb (by simp [z]))).trans (hk b ob (fun z => hb (by simp [z])) (fun z => hb (by simp [z])) q)) hf (Nat.le_refl _) new
    refine ⟨.ref s.heap.objs.size, _, I1, rfl, ⟨_, x, rfl, I.hok.fresh (Nat.le_refl _), rfl, fun ys hy => by rw [I.tuple_inj hy hq]; exact hx⟩, ⟨⟨x', ?_⟩, hst'.1.at fun o q => (sb.2 it (Ne.symm hne)).trans q, hne, hea, hai⟩, fun b hb => ?_⟩
    · have e1 : ((i + 1 : Nat) : Int) = (i : Int) + 1 := by omega
      rw [e1]; exact he'
    · have hb' : b < s.heap.objs.size := by
        have e' : b = e ∨ b = it := by simpa using hb
        rcases e' with z | z
        · rw [z]; exact hel
        · rw [z]; exact hil
      rw [upd_ne (Nat.ne_of_lt hb')]
      exact (hf b hb).1
  done := by
    intro X hP hw hK hc i pins s σ H E I hf st hg
    subst hP hw hK
    obtain ⟨⟨old, he⟩, hit, hne, hea, hai⟩ := st
    obtain ⟨xs, hq, hx⟩ := hg
    obtain ⟨its, rv, p, hz⟩ := I.tuple hq
    obtain ⟨f0, f1, f2, f3, f4, f5⟩ := hf it (by simp)
    have hl := rv.length
    have ei : i = its.toArray.size := by simp; omega
    subst ei
    exact wpAny_pyNext_enum_endD (Draws.tuple (A := X.A.in1) (I.ok.hd hc) it a hai its.toArray) he ⟨hit, p⟩ fun h' eb => ⟨rfl, I.turned (t' := s.toks) (fun b o hb q => eb b o hb q) f0 f1 f3 f4 f5⟩
  self := fun A i s Q E st h => let ⟨⟨_, he⟩, _⟩ := st; wpAny_pyIter_enum he h
def iEnT (K : PySem.W.Frag) (ta : TA) : TI := fun σ H R => ta σ H fun vs H1 => ∃ a xs, vs = [.ref a] ∧ SqT K H1 a xs ∧ R (ItE K a) H1
theorem pi_enT {X : Cx} (K) {e : Expr} {ta : TA} {p pos tpos : Pos} {elts : List Expr} {kk : Nat} (hg : Gl X "enumerate") (hm : X.mg "enumerate" = none) (ha : PA X [e] ta) (hs : starEach [e] X.env = [(false, eval e X.env)] := by rfl) (hK : X.K = K := by rfl) :
    PI X (.Tuple elts kk tpos) (.Call (.Name "enumerate" p) [e] [] pos) (iEnT K ta) := by
  subst hK
  refine ⟨fun pins s σ H R I h => ?_⟩
  refine Call_ (ld_blt I hg hm boot_enumerate (PyProof.Rows.callWith_type1 (thn (ha.run pos pins s σ H _ I h) fun us s1 ⟨vs, H1, I1, r1, q1⟩ => ?_) hs rfl))
  obtain ⟨a, xs, ex, hq, q⟩ := q1
  subst ex
  cases r1 with
  | cons r rr =>
    cases rr
    cases r
    obtain ⟨its, rv, p', hz⟩ := I1.tuple hq
    refine call_enum1 (begins_tuple a its.toArray) p' fun h' he hit hk => wpAny_pyIter_enum he ?_
    have I2 : Inv X pins σ H1 { s1 with heap := h' } := I1.kept (t' := s1.toks) hk
    have hal : a < s1.heap.objs.size := p'.lt
    refine ⟨s1.heap.objs.size + 1, [s1.heap.objs.size + 1, s1.heap.objs.size], _, _, H1, rfl, I2, turn_enumT a (s1.heap.objs.size + 1) s1.heap.objs.size, ⟨⟨.none, he⟩, ⟨_, hit, rfl, rfl⟩, Nat.succ_ne_self _, Nat.ne_of_gt (Nat.lt_succ_of_lt hal), Nat.ne_of_lt hal⟩, fun b hb => ?_, q⟩
    have e' : b = s1.heap.objs.size + 1 ∨ b = s1.heap.objs.size := by simpa using hb
    have hle : s1.heap.objs.size ≤ b := by
      rcases e' with z | z
      · rw [z]; exact Nat.le_add_right _ _
      · rw [z]; exact Nat.le_refl _
    exact I1.fpOk hle (I1.hok.fresh hle)
/-- its loop -/
def kEnT (K : PySem.W.Frag) (vs : List V) (R : It → Hp → Prop) (H : Hp) : Prop := ∃ a xs, vs = [.ref a] ∧ SqT K H a xs ∧ R (ItE K a) H
section
variable {K : PySem.W.Frag} {σ : Sl} {H : Hp} {a : Addr} {t : TA} {xs : List V} {g : TG} {ts : TS} {D : Ends} {F : List MP} {L : List (Addr × HO)}
theorem r_ent {R : It → Hp → Prop} (h : t σ H fun vs H1 => kEnT K vs R H1) : iEnT K t σ H R := h
theorem x_ent {R : It → Hp → Prop} (h : SqT K H a xs) (q : R (ItE K a) H) : kEnT K [.ref a] R H := ⟨a, xs, rfl, h, q⟩
theorem k_enT (xs : List V) (I : Nat → Sl → Hp → Prop) (h0 : I 0 σ H) (hl : ∀ i σ H, i ≤ xs.length → I i σ H → SqT K H a xs)
    (hs : ∀ i x σ H p, xs[i]? = some x → I i σ H → H p = none → g (.ref p) σ (upd H p (.tup [.int (i : Nat), x])) fun σ2 H2 => ts { nx := I (i + 1), rt := D.rt, ct := I (i + 1), bk := D.nx } σ2 H2) (hd : ∀ σ H, I xs.length σ H → D.nx σ H) : kFor (ItE K a) g ts D σ H := by
  refine ⟨fun i m σ H => m = xs.length - i ∧ i ≤ xs.length ∧ I i σ H, ⟨xs.length, by simp, Nat.zero_le _, h0⟩, ?_⟩
  rintro i m σ1 H1 ⟨rfl, hi, p⟩
  have q := hl i σ1 H1 hi p
  by_cases hlt : i < xs.length
  · refine .inr ⟨⟨xs, xs[i], q, List.getElem?_eq_getElem hlt⟩, I (i + 1), fun σ2 H2 p2 => ⟨xs.length - (i + 1), by omega, rfl, hlt, p2⟩, fun x H' y => ?_⟩
    obtain ⟨pq, x', rfl, hn, rfl, hx⟩ := y
    exact hs i x' σ1 H1 pq (hx xs q) p hn
  · have e : i = xs.length := by omega
    subst e
    exact .inl ⟨⟨xs, q, rfl⟩, hd σ1 H1 p⟩
end
end TW
namespace TW
/-! ### halls: the mathematics -/
structure HD where
  m : Int
  tk : List Int
  cl : List Int
  lt : Int
namespace HD
structure ok (d : HD) : Prop where
  m0 : 2 ≤ d.m
  m1 : d.m ≤ 10000
  t0 : 0 < d.tk.length
  t1 : d.tk.length ≤ 12
  t2 : ∀ x ∈ d.tk, 0 ≤ x ∧ x ≤ 9
  c0 : 0 < d.cl.length
  c1 : d.cl.length ≤ 12
  c2 : ∀ x ∈ d.cl, 0 ≤ x ∧ x ≤ 9
  l0 : 0 ≤ d.lt
  l1 : d.lt ≤ 99
/-- the same with entries up to 99 and any modulus -/
structure okw (d : HD) : Prop where
  t0 : 0 < d.tk.length
  t1 : d.tk.length ≤ 12
  t2 : ∀ x ∈ d.tk, 0 ≤ x ∧ x ≤ 99
  c0 : 0 < d.cl.length
  c1 : d.cl.length ≤ 12
  c2 : ∀ x ∈ d.cl, 0 ≤ x ∧ x ≤ 99
  l0 : 0 ≤ d.lt
  l1 : d.lt ≤ 99
theorem ok.w {d : HD} (h : d.ok) : d.okw := ⟨h.t0, h.t1, fun x z => ⟨(h.t2 x z).1, by have := (h.t2 x z).2; omega⟩, h.c0, h.c1, fun x z => ⟨(h.c2 x z).1, by have := (h.c2 x z).2; omega⟩, h.l0, h.l1⟩
def a (d : HD) (t : Nat) : Int := d.tk.getD (t % d.tk.length) 0
def c (d : HD) (t : Nat) : Int := d.cl.getD (t % d.cl.length) 0
def T (d : HD) : Nat → Int
  | 0 => 0
  | t + 1 => T d t + d.a t
def C (d : HD) : Nat → Int
  | 0 => 0
  | t + 1 => min (d.T (t + 1)) (C d t + d.c t)
/-- calls that could be made -/
def B (d : HD) : Nat → Int
  | 0 => 0
  | t + 1 => B d t + d.c t
def per (d : HD) : Nat := Nat.lcm d.tk.length d.cl.length
def W (d : HD) (t : Nat) : Int := d.T t - d.C t
def gr (d : HD) : Int := max 0 (d.T d.per - d.B d.per)
def gain (d : HD) : Int := d.T d.per - d.gr
theorem getD_bd {xs : List Int} {i : Nat} (h : ∀ x ∈ xs, 0 ≤ x ∧ x ≤ 9) : 0 ≤ xs.getD i 0 ∧ xs.getD i 0 ≤ 9 := by
  rw [List.getD_eq_getElem?_getD]
  cases e : xs[i]? with
  | none => simp
  | some x => simpa using h x (List.mem_of_getElem? e)
variable {d : HD}
theorem ok.a0 (h : d.ok) (t : Nat) : 0 ≤ d.a t ∧ d.a t ≤ 9 := getD_bd h.t2
theorem ok.cc0 (h : d.ok) (t : Nat) : 0 ≤ d.c t ∧ d.c t ≤ 9 := getD_bd h.c2
theorem per_pos (h : d.ok) : 0 < d.per := Nat.lcm_pos h.t0 h.c0
theorem per_posW (h : d.okw) : 0 < d.per := Nat.lcm_pos h.t0 h.c0
theorem dvd1 : d.tk.length ∣ d.per := Nat.dvd_lcm_left _ _
theorem dvd2 : d.cl.length ∣ d.per := Nat.dvd_lcm_right _ _
theorem per_le (h : d.ok) : d.per ≤ 144 := by
  have h1 : d.per ∣ d.tk.length * d.cl.length := Nat.lcm_dvd_mul _ _
  have h2 : d.per ≤ d.tk.length * d.cl.length := Nat.le_of_dvd (Nat.mul_pos h.t0 h.c0) h1
  have h3 : d.tk.length * d.cl.length ≤ 12 * 12 := Nat.mul_le_mul h.t1 h.c1
  omega
theorem per_leW (h : d.okw) : d.per ≤ 144 := by
  have h1 : d.per ∣ d.tk.length * d.cl.length := Nat.lcm_dvd_mul _ _
  have h2 : d.per ≤ d.tk.length * d.cl.length := Nat.le_of_dvd (Nat.mul_pos h.t0 h.c0) h1
  have h3 : d.tk.length * d.cl.length ≤ 12 * 12 := Nat.mul_le_mul h.t1 h.c1
  omega
theorem mod_add {n p t : Nat} (h : n ∣ p) : (t + p) % n = t % n := by
  obtain ⟨k, rfl⟩ := h
  exact Nat.add_mul_mod_self_left _ _ _
theorem a_per (t : Nat) : d.a (t + d.per) = d.a t := by unfold a; rw [mod_add dvd1]
theorem c_per (t : Nat) : d.c (t + d.per) = d.c t := by unfold c; rw [mod_add dvd2]
theorem T_per (t : Nat) : d.T (t + d.per) = d.T t + d.T d.per := by
  induction t with
  | zero => simp [T]
  | succ t ih =>
    rw [show t + 1 + d.per = (t + d.per) + 1 by omega]
    show d.T (t + d.per) + d.a (t + d.per) = d.T t + d.a t + d.T d.per
    rw [ih, a_per]; omega
theorem B_per (t : Nat) : d.B (t + d.per) = d.B t + d.B d.per := by
  induction t with
  | zero => simp [B]
  | succ t ih =>
    rw [show t + 1 + d.per = (t + d.per) + 1 by omega]
    show d.B (t + d.per) + d.c (t + d.per) = d.B t + d.c t + d.B d.per
    rw [ih, c_per]; omega
theorem T_mul (t k : Nat) : d.T (t + k * d.per) = d.T t + k * d.T d.per := by
  induction k with
  | zero => simp
  | succ k ih =>
    rw [show t + (k + 1) * d.per = (t + k * d.per) + d.per by rw [Nat.add_mul]; omega, T_per, ih]
    rw [show ((k + 1 : Nat) : Int) = (k : Int) + 1 by omega, Int.add_mul]; omega
theorem T_mono1 (h : d.ok) (t : Nat) : d.T t ≤ d.T (t + 1) := by
  show d.T t ≤ d.T t + d.a t
  have := (h.a0 t).1; omega
theorem T_mono (h : d.ok) {s t : Nat} (e : s ≤ t) : d.T s ≤ d.T t := by
  induction t with
  | zero => have : s = 0 := by omega
            subst this; exact Int.le_refl _
  | succ t ih =>
    by_cases q : s = t + 1
    · subst q; exact Int.le_refl _
    · exact Int.le_trans (ih (by omega)) (T_mono1 h t)
theorem T_nonneg (h : d.ok) (t : Nat) : 0 ≤ d.T t := T_mono h (Nat.zero_le t)
theorem T_le (h : d.ok) (t : Nat) : d.T t ≤ 9 * t := by
  induction t with
  | zero => exact Int.le_refl _
  | succ t ih =>
    show d.T t + d.a t ≤ _
    have := (h.a0 t).2; omega
theorem B_nonneg (h : d.ok) (t : Nat) : 0 ≤ d.B t := by
  induction t with
  | zero => exact Int.le_refl _
  | succ t ih =>
    show 0 ≤ d.B t + d.c t
    have := (h.cc0 t).1; omega
theorem C_le_T (h : d.ok) (t : Nat) : d.C t ≤ d.T t := by
  cases t with
  | zero => exact Int.le_refl _
  | succ t => exact Int.min_le_left _ _
theorem C_mono1 (h : d.ok) (t : Nat) : d.C t ≤ d.C (t + 1) := by
  show d.C t ≤ min (d.T (t + 1)) (d.C t + d.c t)
  have h1 := C_le_T h t
  have h2 := T_mono1 h t
  have := (h.cc0 t).1
  omega
theorem C_mono (h : d.ok) {s t : Nat} (e : s ≤ t) : d.C s ≤ d.C t := by
  induction t with
  | zero => have : s = 0 := by omega
            subst this; exact Int.le_refl _
  | succ t ih =>
    by_cases q : s = t + 1
    · subst q; exact Int.le_refl _
    · exact Int.le_trans (ih (by omega)) (C_mono1 h t)
theorem C_nonneg (h : d.ok) (t : Nat) : 0 ≤ d.C t := C_mono h (Nat.zero_le t)
theorem C_step (h : d.ok) (t : Nat) : d.C (t + 1) ≤ d.C t + 9 := by
  show min (d.T (t + 1)) (d.C t + d.c t) ≤ _
  have := (h.cc0 t).2; omega
theorem W_zero : d.W 0 = 0 := by simp [W, T, C]
theorem W_nonneg (h : d.ok) (t : Nat) : 0 ≤ d.W t := by have := C_le_T h t; unfold W; omega
theorem W_succ (t : Nat) : d.W (t + 1) = max 0 (d.W t + (d.a t - d.c t)) := by
  show d.T t + d.a t - min (d.T t + d.a t) (d.C t + d.c t) = max 0 (d.T t - d.C t + (d.a t - d.c t))
  omega
/-- the queue from w at the tick s on -/
def R (d : HD) (s : Nat) (w : Int) : Nat → Int
  | 0 => w
  | n + 1 => max 0 (R d s w n + (d.a (s + n) - d.c (s + n)))
theorem W_run (s n : Nat) : d.W (s + n) = d.R s (d.W s) n := by
  induction n with
  | zero => rfl
  | succ n ih =>
    show d.W ((s + n) + 1) = _
    rw [W_succ, ih]
    rfl
/-- the net take of n ticks from s on -/
def N (d : HD) (s : Nat) : Nat → Int
  | 0 => 0
  | n + 1 => N d s n + (d.a (s + n) - d.c (s + n))
theorem N_eq (s n : Nat) : d.N s n = (d.T (s + n) - d.T s) - (d.B (s + n) - d.B s) := by
  induction n with
  | zero => simp [N]
  | succ n ih =>
    show d.N s n + _ = (d.T (s + n) + d.a (s + n) - d.T s) - (d.B (s + n) + d.c (s + n) - d.B s)
    rw [ih]; omega
theorem N_per (s : Nat) : d.N s d.per = d.T d.per - d.B d.per := by
  rw [N_eq, T_per, B_per]; omega
theorem R_max (s : Nat) (w : Int) (hw : 0 ≤ w) (n : Nat) : d.R s w n = max (d.R s 0 n) (w + d.N s n) := by
  induction n with
  | zero => show w = max 0 (w + 0); omega
  | succ n ih =>
    show max 0 (d.R s w n + (d.a (s + n) - d.c (s + n))) = max (max 0 (d.R s 0 n + (d.a (s + n) - d.c (s + n)))) (w + (d.N s n + (d.a (s + n) - d.c (s + n))))
    rw [ih]; omega
theorem R_shift (s : Nat) (w : Int) (n : Nat) : d.R (s + d.per) w n = d.R s w n := by
  induction n with
  | zero => rfl
  | succ n ih =>
    show max 0 (d.R (s + d.per) w n + (d.a (s + d.per + n) - d.c (s + d.per + n))) = max 0 (d.R s w n + (d.a (s + n) - d.c (s + n)))
    rw [ih, show s + d.per + n = s + n + d.per by omega, a_per, c_per]
theorem R_mono (s : Nat) {w v : Int} (h : w ≤ v) (n : Nat) : d.R s w n ≤ d.R s v n := by
  induction n with
  | zero => exact h
  | succ n ih =>
    show max 0 (d.R s w n + _) ≤ max 0 (d.R s v n + _)
    omega
/-- from the second period on the queue grows by gr in each -/
theorem W_per (h : d.ok) (t : Nat) (ht : d.per ≤ t) : d.W (t + d.per) = d.W t + d.gr := by
  obtain ⟨s, rfl⟩ : ∃ s, t = s + d.per := ⟨t - d.per, by omega⟩
  have e1 := W_run (d := d) (s + d.per) d.per
  rw [R_max _ _ (W_nonneg h _), N_per, R_shift] at e1
  have e2 : d.R s 0 d.per ≤ d.W (s + d.per) := by
    rw [W_run]; exact R_mono s (W_nonneg h s) _
  have e3 : d.W (s + d.per) ≤ d.W (s + d.per + d.per) := by
    rw [show s + d.per + d.per = d.per + (s + d.per) by omega, W_run d.per, show s + d.per = 0 + (s + d.per) by omega, W_run 0, W_zero]
    have : d.R d.per (d.W d.per) (0 + (s + d.per)) = d.R 0 (d.W d.per) (0 + (s + d.per)) := by
      have := R_shift (d := d) 0 (d.W d.per) (0 + (s + d.per))
      rw [Nat.zero_add] at this
      exact this
    simp only [Nat.zero_add] at this ⊢
    rw [this]
    exact R_mono 0 (W_nonneg h _) _
  unfold gr
  omega
theorem C_per (h : d.ok) (t : Nat) (ht : d.per ≤ t) : d.C (t + d.per) = d.C t + d.gain := by
  have h1 := W_per h t ht
  have h2 := T_per (d := d) t
  unfold W at h1
  unfold gain
  omega
theorem C_mul (h : d.ok) (t k : Nat) (ht : d.per ≤ t) : d.C (t + k * d.per) = d.C t + k * d.gain := by
  induction k with
  | zero => simp
  | succ k ih =>
    rw [show t + (k + 1) * d.per = (t + k * d.per) + d.per by rw [Nat.add_mul]; omega, C_per h _ (by omega), ih]
    rw [show ((k + 1 : Nat) : Int) = (k : Int) + 1 by omega, Int.add_mul]; omega
theorem W_mul (h : d.ok) (t k : Nat) (ht : d.per ≤ t) : d.W (t + k * d.per) = d.W t + k * d.gr := by
  induction k with
  | zero => simp
  | succ k ih =>
    rw [show t + (k + 1) * d.per = (t + k * d.per) + d.per by rw [Nat.add_mul]; omega, W_per h _ (by omega), ih]
    rw [show ((k + 1 : Nat) : Int) = (k : Int) + 1 by omega, Int.add_mul]; omega
theorem gain_eq (h : d.ok) : d.C (2 * d.per) - d.C d.per = d.gain := by
  have := C_per h d.per (Nat.le_refl _)
  rw [show 2 * d.per = d.per + d.per by omega]; omega
theorem gain_nonneg (h : d.ok) : 0 ≤ d.gain := by
  have := C_mono h (show d.per ≤ 2 * d.per by omega)
  have := gain_eq h
  omega
theorem gr_nonneg : 0 ≤ d.gr := by unfold gr; omega
theorem gain_le (h : d.ok) : d.gain ≤ d.T d.per := by have := gr_nonneg (d := d); unfold gain; omega
theorem gain_min : d.gain = min (d.T d.per) (d.B d.per) := by unfold gain gr; omega
/-- as the program reckons them -/
theorem T_div (h : d.ok) (t : Nat) : d.T t = ((t / d.per : Nat) : Int) * d.T d.per + d.T (t % d.per) := by
  have e := T_mul (d := d) (t % d.per) (t / d.per)
  rw [show t % d.per + t / d.per * d.per = t by have := Nat.mod_add_div t d.per; rw [Nat.mul_comm] at this; exact this] at e
  omega
theorem C_div (h : d.ok) (t : Nat) (ht : d.per ≤ t) : d.C t = (((t - d.per) / d.per : Nat) : Int) * d.gain + d.C (d.per + (t - d.per) % d.per) := by
  have e := C_mul h (d.per + (t - d.per) % d.per) ((t - d.per) / d.per) (by omega)
  rw [show d.per + (t - d.per) % d.per + (t - d.per) / d.per * d.per = t by
    have := Nat.mod_add_div (t - d.per) d.per
    rw [Nat.mul_comm] at this
    omega] at e
  omega
/-- sums of the patterns -/
theorem sum_take (xs : List Int) (n : Nat) (hn : n < xs.length) : (xs.take (n + 1)).sum = (xs.take n).sum + xs.getD n 0 := by
  rw [List.take_succ, List.sum_append, List.getD_eq_getElem?_getD]
  rw [List.getElem?_eq_getElem hn]; simp
theorem B_len (n : Nat) (hn : n ≤ d.cl.length) : d.B n = (d.cl.take n).sum := by
  induction n with
  | zero => rfl
  | succ n ih =>
    rw [sum_take _ _ hn]
    show d.B n + d.c n = _
    rw [ih (by omega)]
    unfold c
    rw [Nat.mod_eq_of_lt hn]
theorem T_len (n : Nat) (hn : n ≤ d.tk.length) : d.T n = (d.tk.take n).sum := by
  induction n with
  | zero => rfl
  | succ n ih =>
    rw [sum_take _ _ hn]
    show d.T n + d.a n = _
    rw [ih (by omega)]
    unfold a
    rw [Nat.mod_eq_of_lt hn]
theorem B_cl (t : Nat) : d.B (t + d.cl.length) = d.B t + d.cl.sum := by
  have h0 : d.B d.cl.length = d.cl.sum := by rw [B_len _ (Nat.le_refl _), List.take_length]
  induction t with
  | zero => simp [B, h0]
  | succ t ih =>
    rw [show t + 1 + d.cl.length = (t + d.cl.length) + 1 by omega]
    show d.B (t + d.cl.length) + d.c (t + d.cl.length) = d.B t + d.c t + d.cl.sum
    rw [ih, show d.c (t + d.cl.length) = d.c t by unfold c; rw [Nat.add_mod_right]]; omega
theorem T_tk (t : Nat) : d.T (t + d.tk.length) = d.T t + d.tk.sum := by
  have h0 : d.T d.tk.length = d.tk.sum := by rw [T_len _ (Nat.le_refl _), List.take_length]
  induction t with
  | zero => simp [T, h0]
  | succ t ih =>
    rw [show t + 1 + d.tk.length = (t + d.tk.length) + 1 by omega]
    show d.T (t + d.tk.length) + d.a (t + d.tk.length) = d.T t + d.a t + d.tk.sum
    rw [ih, show d.a (t + d.tk.length) = d.a t by unfold a; rw [Nat.add_mod_right]]; omega
theorem B_clk (k : Nat) : d.B (k * d.cl.length) = k * d.cl.sum := by
  induction k with
  | zero => simp [B]
  | succ k ih =>
    rw [Nat.add_mul, Nat.one_mul, B_cl, ih, show ((k + 1 : Nat) : Int) = (k : Int) + 1 by omega, Int.add_mul]; omega
theorem T_tkk (k : Nat) : d.T (k * d.tk.length) = k * d.tk.sum := by
  induction k with
  | zero => simp [T]
  | succ k ih =>
    rw [Nat.add_mul, Nat.one_mul, T_tk, ih, show ((k + 1 : Nat) : Int) = (k : Int) + 1 by omega, Int.add_mul]; omega
theorem B_sum : d.B d.per = d.cl.sum * ((d.per / d.cl.length : Nat) : Int) := by
  have e := B_clk (d := d) (d.per / d.cl.length)
  rw [Nat.div_mul_cancel dvd2] at e
  rw [e, Int.mul_comm]
theorem T_sum : d.T d.per = d.tk.sum * ((d.per / d.tk.length : Nat) : Int) := by
  have e := T_tkk (d := d) (d.per / d.tk.length)
  rw [Nat.div_mul_cancel dvd1] at e
  rw [e, Int.mul_comm]
theorem sum_nonneg {xs : List Int} (h : ∀ x ∈ xs, 0 ≤ x ∧ x ≤ 9) : 0 ≤ xs.sum ∧ xs.sum ≤ 9 * xs.length := by
  induction xs with
  | nil => simp
  | cons x r ih =>
    have h1 := h x List.mem_cons_self
    have h2 := ih fun y hy => h y (List.mem_cons_of_mem _ hy)
    simp only [List.sum_cons, List.length_cons]
    omega
theorem sum_nonnegW {xs : List Int} (h : ∀ x ∈ xs, 0 ≤ x ∧ x ≤ 99) : 0 ≤ xs.sum ∧ xs.sum ≤ 99 * xs.length := by
  induction xs with
  | nil => simp
  | cons x r ih =>
    have h1 := h x List.mem_cons_self
    have h2 := ih fun y hy => h y (List.mem_cons_of_mem _ hy)
    simp only [List.sum_cons, List.length_cons]
    omega
theorem T_at (h : d.ok) : ∀ i k : Nat, d.per ≤ i → d.T (i + k * d.per) = d.T i + k * (d.T (2 * d.per) - d.T d.per) := fun i k _ => by
  have e := T_per (d := d) d.per
  rw [show d.per + d.per = 2 * d.per by omega] at e
  rw [T_mul, show d.T (2 * d.per) - d.T d.per = d.T d.per by omega]
theorem C_at (h : d.ok) : ∀ i k : Nat, d.per ≤ i → d.C (i + k * d.per) = d.C i + k * (d.C (2 * d.per) - d.C d.per) := fun i k hi => by
  rw [C_mul h i k hi, gain_eq h]
theorem W_tick {t : Int} (h : 0 ≤ t) : d.W (t.toNat + 1) = d.T (t + 1).toNat - d.C (t + 1).toNat := by
  rw [show (t + 1).toNat = t.toNat + 1 by omega]
  rfl
theorem C_bd (h : d.ok) {n : Nat} (hn : n ≤ 1000) : 0 ≤ d.C n ∧ d.C n ≤ 9000 := by
  have h1 := C_nonneg h n
  have h2 := C_le_T h n
  have h3 := T_le h n
  omega
theorem T_bd (h : d.ok) {n : Nat} (hn : n ≤ 1000) : 0 ≤ d.T n ∧ d.T n ≤ 9000 := by
  have h2 := T_nonneg h n
  have h3 := T_le h n
  omega
theorem gain_bd (h : d.ok) : 0 ≤ d.gain ∧ d.gain ≤ 9000 := by
  have h1 := gain_nonneg h
  have h2 := gain_le h
  have h3 := (T_bd h (n := d.per) (by have := per_le h; omega)).2
  omega
theorem tot_iff (h : d.ok) : d.T d.per = 0 ↔ d.tk.sum = 0 := by
  have e := T_sum (d := d)
  have p : 0 < d.per / d.tk.length := Nat.div_pos (Nat.le_of_dvd (per_pos h) dvd1) h.t0
  rw [e]
  constructor
  · intro z
    rcases Int.mul_eq_zero.mp z with z | z
    · exact z
    · omega
  · intro z
    rw [z, Int.zero_mul]
theorem C_flat (h : d.ok) (g : d.gain = 0) (t : Nat) (ht : d.per ≤ t) : d.C t = d.C d.per := by
  have e := C_mul h d.per t (Nat.le_refl _)
  rw [g, Int.mul_zero, Int.add_zero] at e
  have p := per_pos h
  have h1 : t ≤ d.per + t * d.per := by
    have := Nat.le_mul_of_pos_right t p
    omega
  have h2 := C_mono h h1
  have h3 := C_mono h ht
  omega
theorem C_big (h : d.ok) (g : 0 < d.gain) (n : Int) : ∃ N : Nat, n < d.C N := by
  refine ⟨d.per + (n.toNat + 1) * d.per, ?_⟩
  rw [C_mul h d.per _ (Nat.le_refl _)]
  have h1 := C_nonneg h d.per
  have h2 : ((n.toNat + 1 : Nat) : Int) * 1 ≤ ((n.toNat + 1 : Nat) : Int) * d.gain := Int.mul_le_mul_of_nonneg_left g (by omega)
  omega
/-- a ticket's tick of taking is one -/
theorem T_uniq (h : d.ok) {s t : Nat} {n : Int} (h1 : d.T s ≤ n) (h2 : n < d.T (s + 1)) (h3 : d.T t ≤ n) (h4 : n < d.T (t + 1)) : s = t := by
  rcases Nat.lt_trichotomy s t with e | e | e
  · have := T_mono h (show s + 1 ≤ t from e)
    omega
  · exact e
  · have := T_mono h (show t + 1 ≤ s from e)
    omega
theorem C_uniq (h : d.ok) {s t : Nat} {n : Int} (h1 : d.C s ≤ n) (h2 : n < d.C (s + 1)) (h3 : d.C t ≤ n) (h4 : n < d.C (t + 1)) : s = t := by
  rcases Nat.lt_trichotomy s t with e | e | e
  · have := C_mono h (show s + 1 ≤ t from e)
    omega
  · exact e
  · have := C_mono h (show t + 1 ≤ s from e)
    omega
/-- by rounds -/
theorem T_rounds (h : d.ok) {n : Int} (hn : 0 ≤ n) (i : Nat) (h1 : d.T i ≤ n % d.T d.per) (h2 : n % d.T d.per < d.T (i + 1)) :
    d.T ((n / d.T d.per).toNat * d.per + i) ≤ n ∧ n < d.T ((n / d.T d.per).toNat * d.per + i + 1) := by
  have t0 := T_nonneg h d.per
  have q0 : 0 ≤ n / d.T d.per := Int.ediv_nonneg hn t0
  have e := Int.mul_ediv_add_emod n (d.T d.per)
  have e1 := T_mul (d := d) i (n / d.T d.per).toNat
  have e2 := T_mul (d := d) (i + 1) (n / d.T d.per).toNat
  rw [Int.toNat_of_nonneg q0, Int.mul_comm] at e1 e2
  rw [show (n / d.T d.per).toNat * d.per + i = i + (n / d.T d.per).toNat * d.per by omega, show i + (n / d.T d.per).toNat * d.per + 1 = i + 1 + (n / d.T d.per).toNat * d.per by omega]
  omega
theorem C_rounds (h : d.ok) {n : Int} (hn : d.C d.per ≤ n) (i : Nat) (hi : d.per ≤ i) (h1 : d.C i ≤ d.C d.per + (n - d.C d.per) % d.gain) (h2 : d.C d.per + (n - d.C d.per) % d.gain < d.C (i + 1)) :
    d.C (i + ((n - d.C d.per) / d.gain).toNat * d.per) ≤ n ∧ n < d.C (i + ((n - d.C d.per) / d.gain).toNat * d.per + 1) := by
  have t0 := gain_nonneg h
  have q0 : 0 ≤ (n - d.C d.per) / d.gain := Int.ediv_nonneg (by omega) t0
  have e := Int.mul_ediv_add_emod (n - d.C d.per) d.gain
  have e1 := C_mul h i ((n - d.C d.per) / d.gain).toNat hi
  have e2 := C_mul h (i + 1) ((n - d.C d.per) / d.gain).toNat (by omega)
  rw [Int.toNat_of_nonneg q0, Int.mul_comm] at e1 e2
  rw [show i + ((n - d.C d.per) / d.gain).toNat * d.per + 1 = i + 1 + ((n - d.C d.per) / d.gain).toNat * d.per by omega]
  omega
theorem T_run (h : d.ok) {n : Int} (h0 : 0 ≤ n) (hp : n < d.T d.per) : ∃ t : Nat, t < d.per ∧ d.T t ≤ n ∧ n < d.T (t + 1) := by
  have key : ∀ m : Nat, n < d.T m → ∃ t : Nat, t < m ∧ d.T t ≤ n ∧ n < d.T (t + 1) := by
    intro m
    induction m with
    | zero =>
      intro z
      have : d.T 0 = 0 := rfl
      omega
    | succ m ih =>
      intro z
      by_cases c : n < d.T m
      · obtain ⟨t, h1, h2, h3⟩ := ih c
        exact ⟨t, by omega, h2, h3⟩
      · exact ⟨m, by omega, by omega, z⟩
  exact key d.per hp
theorem T_at2 (h : d.ok) : -10000 ≤ d.T (2 * d.per) - d.T d.per ∧ d.T (2 * d.per) - d.T d.per ≤ 10000 := by
  have p := per_le h
  have := T_bd h (n := 2 * d.per) (by omega)
  have := T_bd h (n := d.per) (by omega)
  omega
theorem C_at2 (h : d.ok) : -10000 ≤ d.C (2 * d.per) - d.C d.per ∧ d.C (2 * d.per) - d.C d.per ≤ 10000 := by
  have p := per_le h
  have := C_bd h (n := 2 * d.per) (by omega)
  have := C_bd h (n := d.per) (by omega)
  omega
/-! open tickets -/
def O (d : HD) (t : Nat) : Int := d.T (t + 1) - d.C ((t : Int) - d.lt).toNat
theorem O_per (h : d.ok) (g : d.gr = 0) (t : Nat) (ht : (d.per : Int) + d.lt ≤ t) : d.O (t + d.per) = d.O t := by
  have l0 := h.l0
  have e1 := T_per (d := d) (t + 1)
  have e2 := C_per h ((t : Int) - d.lt).toNat (by omega)
  unfold O
  rw [show t + d.per + 1 = t + 1 + d.per by omega, show (((t + d.per : Nat) : Int) - d.lt).toNat = ((t : Int) - d.lt).toNat + d.per by omega, e1, e2]
  unfold gain
  rw [g]
  omega
theorem O_cover (h : d.ok) (g : d.gr = 0) (t : Nat) : ∃ s : Nat, (s : Int) < 2 * d.per + d.lt ∧ d.O s = d.O t := by
  have p := per_pos h
  induction t using Nat.strongRecOn with
  | _ t ih =>
    by_cases c : (t : Int) < 2 * d.per + d.lt
    · exact ⟨t, c, rfl⟩
    · have l0 := h.l0
      obtain ⟨s, h1, h2⟩ := ih (t - d.per) (by omega)
      refine ⟨s, h1, h2.trans ?_⟩
      have := O_per h g (t - d.per) (by omega)
      rw [show t - d.per + d.per = t by omega] at this
      exact this.symm
def IsMost (d : HD) (m : Int) : Prop := (∃ t : Nat, m = d.O t) ∧ ∀ t : Nat, d.O t ≤ m
theorem most_uniq {m n : Int} (h1 : d.IsMost m) (h2 : d.IsMost n) : m = n := by
  obtain ⟨⟨s, rfl⟩, a⟩ := h1
  obtain ⟨⟨t, rfl⟩, b⟩ := h2
  have := a t
  have := b s
  omega
theorem most_of (h : d.ok) (g : d.gr = 0) {n : Nat} {m : Int} (hn : 2 * (d.per : Int) + d.lt ≤ n) (h1 : ∃ t : Nat, t < n ∧ m = d.O t) (h2 : ∀ t : Nat, t < n → d.O t ≤ m) : d.IsMost m := by
  obtain ⟨t, _, e⟩ := h1
  refine ⟨⟨t, e⟩, fun t => ?_⟩
  obtain ⟨s, a, b⟩ := O_cover h g t
  rw [← b]
  exact h2 s (by omega)
theorem most_nonneg (h : d.ok) {m : Int} (hm : d.IsMost m) : 0 ≤ m := by
  have h1 := hm.2 0
  have h2 := T_nonneg h 1
  have l0 := h.l0
  unfold O at h1
  rw [show ((0 : Nat) : Int) - d.lt = -d.lt by omega, show (-d.lt).toNat = 0 by omega] at h1
  have : d.C 0 = 0 := rfl
  have : d.T (0 + 1) = d.T 1 := rfl
  omega
theorem O_nonneg (h : d.ok) (t : Nat) : 0 ≤ d.O t := by
  have l0 := h.l0
  have h1 := C_le_T h ((t : Int) - d.lt).toNat
  have h2 := T_mono h (show ((t : Int) - d.lt).toNat ≤ t + 1 by omega)
  unfold O
  omega
theorem gr_iff (h : d.ok) : 0 < d.gr ↔ d.cl.sum * (d.tk.length : Int) < d.tk.sum * (d.cl.length : Int) := by
  have e1 := T_sum (d := d)
  have e2 := B_sum (d := d)
  have t0 := h.t0
  have c0 := h.c0
  have f1 := Nat.div_mul_cancel (dvd1 (d := d))
  have f2 := Nat.div_mul_cancel (dvd2 (d := d))
  have p := per_pos h
  have k1 : 0 < d.per / d.tk.length := Nat.div_pos (Nat.le_of_dvd p dvd1) t0
  have k2 : 0 < d.per / d.cl.length := Nat.div_pos (Nat.le_of_dvd p dvd2) c0
  have g : 0 < d.gr ↔ d.B d.per < d.T d.per := by unfold gr; omega
  rw [g, e1, e2]
  have m1 : (d.cl.sum * ((d.per / d.cl.length : Nat) : Int)) * (d.cl.length * d.tk.length : Nat) = (d.cl.sum * (d.tk.length : Int)) * (d.per : Int) := by
    rw [Int.natCast_mul, show (d.per : Int) = ((d.per / d.cl.length : Nat) : Int) * (d.cl.length : Int) by rw [← Int.natCast_mul, f2]]
    simp only [Int.mul_assoc, Int.mul_comm, Int.mul_left_comm]
  have m2 : (d.tk.sum * ((d.per / d.tk.length : Nat) : Int)) * (d.cl.length * d.tk.length : Nat) = (d.tk.sum * (d.cl.length : Int)) * (d.per : Int) := by
    rw [Int.natCast_mul, show (d.per : Int) = ((d.per / d.tk.length : Nat) : Int) * (d.tk.length : Int) by rw [← Int.natCast_mul, f1]]
    simp only [Int.mul_assoc, Int.mul_comm, Int.mul_left_comm]
  have q : (0 : Int) < ((d.cl.length * d.tk.length : Nat) : Int) := by
    have := Nat.mul_pos c0 t0
    omega
  have p' : (0 : Int) < (d.per : Int) := by omega
  constructor
  · intro z
    have := Int.mul_lt_mul_of_pos_right z q
    rw [m1, m2] at this
    exact Int.lt_of_mul_lt_mul_right this (by omega)
  · intro z
    have := Int.mul_lt_mul_of_pos_right z p'
    rw [← m1, ← m2] at this
    exact Int.lt_of_mul_lt_mul_right this (by omega)
theorem ceil_eq {a m : Int} (hm : 0 < m) : 0 - (0 - a) / m = (a + m - 1) / m := by
  have e := Int.mul_ediv_add_emod (0 - a) m
  have r0 := Int.emod_nonneg (0 - a) (show m ≠ 0 by omega)
  have r1 := Int.emod_lt_of_pos (0 - a) hm
  have k : a + m - 1 = (m - 1 - (0 - a) % m) + m * (0 - (0 - a) / m) := by
    rw [Int.mul_sub, Int.mul_zero]
    omega
  have f : (m - 1 - (0 - a) % m) / m = 0 := Int.ediv_eq_zero_of_lt (by omega) (by omega)
  rw [k, Int.add_mul_ediv_left _ _ (by omega), f, Int.zero_add]
theorem T_lt (k : Int) (n : Nat) : HD.T { d with lt := k } n = d.T n := by
  induction n with
  | zero => rfl
  | succ n ih =>
    show HD.T { d with lt := k } n + _ = d.T n + _
    rw [ih]
    rfl
theorem B_lt (k : Int) (n : Nat) : HD.B { d with lt := k } n = d.B n := by
  induction n with
  | zero => rfl
  | succ n ih =>
    show HD.B { d with lt := k } n + _ = d.B n + _
    rw [ih]
    rfl
theorem gr_lt (k : Int) : HD.gr { d with lt := k } = d.gr := by
  unfold gr
  rw [T_lt, B_lt]
  rfl
theorem O_int {t : Int} (h : 0 ≤ t) : d.O t.toNat = d.T (t + 1).toNat - d.C (t - d.lt).toNat := by
  unfold O
  rw [show (t + 1).toNat = t.toNat + 1 by omega, Int.toNat_of_nonneg h]
/-! waits -/
def IsWait (d : HD) (n w : Int) : Prop := ∃ c t : Nat, d.C c ≤ n ∧ n < d.C (c + 1) ∧ d.T t ≤ n ∧ n < d.T (t + 1) ∧ w = (c : Int) - t
theorem wait_uniq (h : d.ok) {n v w : Int} (h1 : d.IsWait n v) (h2 : d.IsWait n w) : v = w := by
  obtain ⟨c, t, a1, a2, a3, a4, rfl⟩ := h1
  obtain ⟨c', t', b1, b2, b3, b4, rfl⟩ := h2
  rw [C_uniq h a1 a2 b1 b2, T_uniq h a3 a4 b3 b4]
/-- a wait comes again a period later -/
theorem wait_per (h : d.ok) (g : d.gr = 0) {n w : Int} (hn : d.C d.per ≤ n) (hw : d.IsWait n w) : d.IsWait (n + d.T d.per) w := by
  obtain ⟨c, t, a1, a2, a3, a4, rfl⟩ := hw
  have hc : d.per ≤ c := by
    rcases Nat.lt_or_ge c d.per with z | z
    · have := C_mono h (show c + 1 ≤ d.per from z)
      omega
    · exact z
  have e0 : d.gain = d.T d.per := by unfold gain; omega
  have e1 := C_per h c hc
  have e2 := C_per h (c + 1) (by omega)
  have e3 := T_per (d := d) t
  have e4 := T_per (d := d) (t + 1)
  refine ⟨c + d.per, t + d.per, by omega, ?_, by omega, ?_, by omega⟩
  · rw [show c + d.per + 1 = c + 1 + d.per by omega]
    omega
  · rw [show t + d.per + 1 = t + 1 + d.per by omega]
    omega
theorem C_run (h : d.ok) {n : Int} {m : Nat} (h0 : 0 ≤ n) (hp : n < d.C m) : ∃ t : Nat, t < m ∧ d.C t ≤ n ∧ n < d.C (t + 1) := by
  induction m with
  | zero =>
    have : d.C 0 = 0 := rfl
    omega
  | succ m ih =>
    by_cases c : n < d.C m
    · obtain ⟨t, h1, h2, h3⟩ := ih c
      exact ⟨t, by omega, h2, h3⟩
    · exact ⟨m, by omega, by omega, hp⟩
theorem T_runN (h : d.ok) {n : Int} {m : Nat} (h0 : 0 ≤ n) (hp : n < d.T m) : ∃ t : Nat, t < m ∧ d.T t ≤ n ∧ n < d.T (t + 1) := by
  induction m with
  | zero =>
    have : d.T 0 = 0 := rfl
    omega
  | succ m ih =>
    by_cases c : n < d.T m
    · obtain ⟨t, h1, h2, h3⟩ := ih c
      exact ⟨t, by omega, h2, h3⟩
    · exact ⟨m, by omega, by omega, hp⟩
/-- the longest wait of the tickets of ever -/
def IsLong (d : HD) (w : Int) : Prop := (w = 0 ∨ ∃ n : Int, 0 ≤ n ∧ d.IsWait n w) ∧ 0 ≤ w ∧ ∀ n v : Int, 0 ≤ n → d.IsWait n v → v ≤ w
theorem long_uniq {v w : Int} (h1 : d.IsLong v) (h2 : d.IsLong w) : v = w := by
  obtain ⟨a, a0, a1⟩ := h1
  obtain ⟨b, b0, b1⟩ := h2
  have x : v ≤ w := by
    rcases a with rfl | ⟨n, n0, z⟩
    · exact b0
    · exact b1 n v n0 z
  have y : w ≤ v := by
    rcases b with rfl | ⟨n, n0, z⟩
    · exact a0
    · exact a1 n w n0 z
  omega
theorem wait_cover (h : d.ok) (g : d.gr = 0) {n w : Int} (hn : 0 ≤ n) (hw : d.IsWait n w) : ∃ m : Int, 0 ≤ m ∧ m < d.T (2 * d.per) ∧ d.IsWait m w := by
  have e0 : d.gain = d.T d.per := by unfold gain; omega
  have e2 := T_per (d := d) d.per
  rw [show d.per + d.per = 2 * d.per by omega] at e2
  have ct := C_le_T h d.per
  have key : ∀ (k : Nat) (n : Int), 0 ≤ n → n < k → d.IsWait n w → ∃ m : Int, 0 ≤ m ∧ m < d.T (2 * d.per) ∧ d.IsWait m w := by
    intro k
    induction k with
    | zero => intro n h1 h2; omega
    | succ k ih =>
      intro n h1 h2 hw
      by_cases c : n < d.T (2 * d.per)
      · exact ⟨n, h1, c, hw⟩
      · have tp : 0 < d.T d.per := by
          obtain ⟨_, t, _, _, a3, a4, _⟩ := hw
          rcases Int.lt_or_eq_of_le (T_nonneg h d.per) with z | z
          · exact z
          · have e := T_mul (d := d) 0 (t + 1)
            rw [← z, Int.mul_zero, Int.add_zero, Nat.zero_add] at e
            have z0 : d.T 0 = 0 := rfl
            have := T_mono h (show t + 1 ≤ (t + 1) * d.per from Nat.le_mul_of_pos_right _ (per_pos h))
            omega
        refine ih (n - d.T d.per) (by omega) (by omega) ?_
        obtain ⟨cc, t, a1, a2, a3, a4, e⟩ := hw
        -- the ticket a period earlier
        have hc : 2 * d.per ≤ cc := by
          rcases Nat.lt_or_ge cc (2 * d.per) with z | z
          · have := C_mono h (show cc + 1 ≤ 2 * d.per from z)
            have := C_le_T h (2 * d.per)
            omega
          · exact z
        have ht : 2 * d.per ≤ t := by
          rcases Nat.lt_or_ge t (2 * d.per) with z | z
          · have := T_mono h (show t + 1 ≤ 2 * d.per from z)
            omega
          · exact z
        have e1 := C_per h (cc - d.per) (by omega)
        have e3 := C_per h (cc + 1 - d.per) (by omega)
        have e4 := T_per (d := d) (t - d.per)
        have e5 := T_per (d := d) (t + 1 - d.per)
        rw [show cc - d.per + d.per = cc by omega] at e1
        rw [show cc + 1 - d.per + d.per = cc + 1 by omega] at e3
        rw [show t - d.per + d.per = t by omega] at e4
        rw [show t + 1 - d.per + d.per = t + 1 by omega] at e5
        refine ⟨cc - d.per, t - d.per, by omega, ?_, by omega, ?_, by omega⟩
        · rw [show cc - d.per + 1 = cc + 1 - d.per by omega]
          omega
        · rw [show t - d.per + 1 = t + 1 - d.per by omega]
          omega
  exact key (n.toNat + 1) n hn (by omega) hw
theorem long_of (h : d.ok) (g : d.gr = 0) {w : Int} {N : Int} (hN : d.T (2 * d.per) ≤ N) (h0 : w = 0 ∨ ∃ n : Int, 0 ≤ n ∧ n < N ∧ d.IsWait n w) (h1 : 0 ≤ w) (h2 : ∀ n v : Int, 0 ≤ n → n < N → d.IsWait n v → v ≤ w) : d.IsLong w := by
  refine ⟨?_, h1, fun n v hn hv => ?_⟩
  · rcases h0 with z | ⟨n, a, _, b⟩
    · exact .inl z
    · exact .inr ⟨n, a, b⟩
  · obtain ⟨m, m0, m1, mw⟩ := wait_cover h g hn hv
    exact h2 m v m0 (by omega) mw
end HD
end TW
namespace TW
open PySem PySem.Spec PyProof.Rows L2
/-! ### what the facts that stay give -/
def Ent (F : List MP) (f : MP) : Prop := ∀ E : Hp, (∀ g ∈ F, g.1 E) → f.1 E
theorem Ent.mem {F : List MP} {f : MP} (h : f ∈ F) : Ent F f := fun E e => e f h
theorem Ent.cons {F : List MP} {f g : MP} (h : Ent F f) : Ent (g :: F) f := fun E e => h E fun x hx => e x (List.mem_cons_of_mem _ hx)
theorem Ent.tup {K : PySem.W.Frag} {F : List MP} {p : Addr} {xs : List V} (h : cel p (.tup xs) ∈ F) : Ent F (tuF K p xs) := fun E e => SqT.of (e _ h)
theorem Ent.all {F : List MP} {f : MP} (h : ∀ E, f.1 E) : Ent F f := fun E _ => h E
theorem S.ent {F L} {H : Hp} (s : S F L H) {f : MP} (h : Ent F f) : f.1 H :=
  let ⟨E, h1, h2, _⟩ := s.ex; f.2 E H h1 (h E h2)
theorem S.put_ {F L} {H : Hp} (s : S F L H) (f : MP) (h : Ent F f) : S (f :: F) L H := s.addF f h
theorem q_T4 {K : PySem.W.Frag} {F L} {H : Hp} {p : Addr} {xs : List V} (s : S F L H) (h : Ent F (tuF K p xs)) : SqT K H p xs := s.ent h
/-! ### kinds of values -/
def kinds : List String := ["NoneType", "bool", "int", "str", "tuple", "list"]
section
variable {K : PySem.W.Frag} {H : Hp} {Q : VK} {x : V} {n m : String} {b : Bool} {i : Int} {z : Str} {p : Addr} {xs : List V} {F : List MP} {L : List (Addr × HO)}
theorem ty_int : TyX K H (.int i) (.type "int") := .base (.int i)
theorem ty_bl : TyX K H (.bl b) (.type "bool") := .base (.bl b)
theorem ty_non : TyX K H .non (.type "NoneType") := .base .non
theorem ty_str : TyX K H (.str z) (.type "str") := .base (.str z)
theorem ty_lst (h : SqL K H p xs) : TyX K H (.ref p) (.type "list") := by
  rcases h with (h | ⟨o, h⟩) | ⟨o, its, k, h1, h2, _⟩
  · exact .base (.lst h)
  · exact .base (.frz h)
  · exact .kList h1 h2
theorem ty_tup (h : SqT K H p xs) : TyX K H (.ref p) (.type "tuple") := by
  rcases h with (h | ⟨o, h⟩) | ⟨o, its, k, h1, h2, _⟩
  · exact .base (.tup h)
  · exact .fTuple h
  · exact .kTuple h1 h2
theorem ty_of {t : Value} (h : TyX K H x t) : (t = .type "int" → ∃ i, x = .int i) ∧ (t = .type "bool" → ∃ i, x = .bl i) ∧ (t = .type "str" → ∃ i, x = .str i) := by
  cases h with
  | base h => cases h <;> refine ⟨fun e => ?_, fun e => ?_, fun e => ?_⟩ <;> first | exact ⟨_, rfl⟩ | (simp at e)
  | _ => refine ⟨fun e => ?_, fun e => ?_, fun e => ?_⟩ <;> simp at e
theorem ty_of_int (h : TyX K H x (.type "int")) : ∃ i, x = .int i := (ty_of h).1 rfl
theorem ty_of_bool (h : TyX K H x (.type "bool")) : ∃ i, x = .bl i := (ty_of h).2.1 rfl
theorem x_isi (ty : TyX K H x (.type n)) (h : PySem.W.kitOne K (.type n) (.type m) = some b) (q : Q (.bl b) H) : rIsi K [x, .ty m] H Q := ⟨x, .ty m, _, _, b, rfl, .ty m, ty, h, q⟩
theorem iII (q : Q (.bl true) H) : rIsi K [.int i, .ty "int"] H Q := x_isi ty_int rfl q
theorem iIB (q : Q (.bl false) H) : rIsi K [.int i, .ty "bool"] H Q := x_isi ty_int rfl q
theorem iIS (q : Q (.bl false) H) : rIsi K [.int i, .ty "str"] H Q := x_isi ty_int rfl q
theorem iIT (q : Q (.bl false) H) : rIsi K [.int i, .ty "tuple"] H Q := x_isi ty_int rfl q
theorem iIL (q : Q (.bl false) H) : rIsi K [.int i, .ty "list"] H Q := x_isi ty_int rfl q
theorem iBI (q : Q (.bl true) H) : rIsi K [.bl b, .ty "int"] H Q := x_isi ty_bl rfl q
theorem iBB (q : Q (.bl true) H) : rIsi K [.bl b, .ty "bool"] H Q := x_isi ty_bl rfl q
theorem iBS (q : Q (.bl false) H) : rIsi K [.bl b, .ty "str"] H Q := x_isi ty_bl rfl q
theorem iBT (q : Q (.bl false) H) : rIsi K [.bl b, .ty "tuple"] H Q := x_isi ty_bl rfl q
theorem iBL (q : Q (.bl false) H) : rIsi K [.bl b, .ty "list"] H Q := x_isi ty_bl rfl q
theorem iSI (q : Q (.bl false) H) : rIsi K [.str z, .ty "int"] H Q := x_isi ty_str rfl q
theorem iSB (q : Q (.bl false) H) : rIsi K [.str z, .ty "bool"] H Q := x_isi ty_str rfl q
theorem iSS (q : Q (.bl true) H) : rIsi K [.str z, .ty "str"] H Q := x_isi ty_str rfl q
theorem iST (q : Q (.bl false) H) : rIsi K [.str z, .ty "tuple"] H Q := x_isi ty_str rfl q
theorem iSL (q : Q (.bl false) H) : rIsi K [.str z, .ty "list"] H Q := x_isi ty_str rfl q
theorem iNI (q : Q (.bl false) H) : rIsi K [.non, .ty "int"] H Q := x_isi ty_non rfl q
theorem iNB (q : Q (.bl false) H) : rIsi K [.non, .ty "bool"] H Q := x_isi ty_non rfl q
theorem iNS (q : Q (.bl false) H) : rIsi K [.non, .ty "str"] H Q := x_isi ty_non rfl q
theorem iNT (q : Q (.bl false) H) : rIsi K [.non, .ty "tuple"] H Q := x_isi ty_non rfl q
theorem iNL (q : Q (.bl false) H) : rIsi K [.non, .ty "list"] H Q := x_isi ty_non rfl q
theorem iTI (h : SqT K H p xs) (q : Q (.bl false) H) : rIsi K [.ref p, .ty "int"] H Q := x_isi (ty_tup h) rfl q
theorem iTB (h : SqT K H p xs) (q : Q (.bl false) H) : rIsi K [.ref p, .ty "bool"] H Q := x_isi (ty_tup h) rfl q
theorem iTS (h : SqT K H p xs) (q : Q (.bl false) H) : rIsi K [.ref p, .ty "str"] H Q := x_isi (ty_tup h) rfl q
theorem iTT (h : SqT K H p xs) (q : Q (.bl true) H) : rIsi K [.ref p, .ty "tuple"] H Q := x_isi (ty_tup h) rfl q
theorem iTL (h : SqT K H p xs) (q : Q (.bl false) H) : rIsi K [.ref p, .ty "list"] H Q := x_isi (ty_tup h) rfl q
theorem iLI (h : SqL K H p xs) (q : Q (.bl false) H) : rIsi K [.ref p, .ty "int"] H Q := x_isi (ty_lst h) rfl q
theorem iLB (h : SqL K H p xs) (q : Q (.bl false) H) : rIsi K [.ref p, .ty "bool"] H Q := x_isi (ty_lst h) rfl q
theorem iLS (h : SqL K H p xs) (q : Q (.bl false) H) : rIsi K [.ref p, .ty "str"] H Q := x_isi (ty_lst h) rfl q
theorem iLT (h : SqL K H p xs) (q : Q (.bl false) H) : rIsi K [.ref p, .ty "tuple"] H Q := x_isi (ty_lst h) rfl q
theorem iLL (h : SqL K H p xs) (q : Q (.bl true) H) : rIsi K [.ref p, .ty "list"] H Q := x_isi (ty_lst h) rfl q
end
/-! ### halls in the heap -/
def hfs (d : HD) (pt pc pl ql : Addr) : List (Str × V) := [("modulus", .int d.m), ("takes", .ref pt), ("calls", .ref pc), ("lateness", .int d.lt), ("length", .int d.per), ("taken_by", .ref pl), ("called_by", .ref ql)]
abbrev Ts (d : HD) (n : Nat) : List V := (List.range n).map fun t => V.int (d.T t)
abbrev Cs (d : HD) (n : Nat) : List V := (List.range n).map fun t => V.int (d.C t)
abbrev hC (K : PySem.W.Frag) : Addr := He.ga K "Hall"
def hallP (K : PySem.W.Frag) (x : Addr) (d : HD) : MP :=
  ⟨fun E => ∃ dx pt pc pl ql, E x = some (.ins (hC K) dx (hfs d pt pc pl ql)) ∧ SqT K E pt (d.tk.map V.int) ∧ SqT K E pc (d.cl.map V.int) ∧ SqL K E pl (Ts d (2 * d.per + 1)) ∧ SqL K E ql (Cs d (2 * d.per + 1)),
   fun E E' e ⟨dx, pt, pc, pl, ql, h1, h2, h3, h4, h5⟩ => ⟨dx, pt, pc, pl, ql, e _ _ h1, sqT_mono e h2, sqT_mono e h3, sqL_mono e h4, sqL_mono e h5⟩⟩
theorem hfs_m {d pt pc pl ql} : (hfs d pt pc pl ql).lookup (Str.ofString "modulus") = some (.int d.m) := rfl
theorem hfs_t {d pt pc pl ql} : (hfs d pt pc pl ql).lookup (Str.ofString "takes") = some (.ref pt) := rfl
theorem hfs_c {d pt pc pl ql} : (hfs d pt pc pl ql).lookup (Str.ofString "calls") = some (.ref pc) := rfl
theorem hfs_l {d pt pc pl ql} : (hfs d pt pc pl ql).lookup (Str.ofString "lateness") = some (.int d.lt) := rfl
theorem hfs_n {d pt pc pl ql} : (hfs d pt pc pl ql).lookup (Str.ofString "length") = some (.int d.per) := rfl
theorem hfs_tb {d pt pc pl ql} : (hfs d pt pc pl ql).lookup (Str.ofString "taken_by") = some (.ref pl) := rfl
theorem hfs_cb {d pt pc pl ql} : (hfs d pt pc pl ql).lookup (Str.ofString "called_by") = some (.ref ql) := rfl
/-- a hall's own parts as facts -/
theorem S.hall {K : PySem.W.Frag} {F L} {H : Hp} {x : Addr} {d : HD} (s : S F L H) (h : hallP K x d ∈ F) :
    ∃ dx pt pc pl ql, S (cel x (.ins (hC K) dx (hfs d pt pc pl ql)) :: tuF K pt (d.tk.map V.int) :: tuF K pc (d.cl.map V.int) :: liF K pl (Ts d (2 * d.per + 1)) :: liF K ql (Cs d (2 * d.per + 1)) :: F) L H := by
  obtain ⟨E, h1, h2, h3⟩ := s.ex
  obtain ⟨dx, pt, pc, pl, ql, a1, a2, a3, a4, a5⟩ := h2 _ h
  refine ⟨dx, pt, pc, pl, ql, ⟨E, h1, fun f hf => ?_, h3⟩, s.cell, s.nd⟩
  rcases List.mem_cons.mp hf with rfl | hf
  · exact a1
  rcases List.mem_cons.mp hf with rfl | hf
  · exact a2
  rcases List.mem_cons.mp hf with rfl | hf
  · exact a3
  rcases List.mem_cons.mp hf with rfl | hf
  · exact a4
  rcases List.mem_cons.mp hf with rfl | hf
  · exact a5
  exact h2 f hf
section
variable {K : PySem.W.Frag} {H : Hp} {Q : VK} {F : List MP} {L L' : List (Addr × HO)} {x C : Addr} {d : HD} {dx pt pc pl ql : Addr} {fs : List (Str × V)} {f m : Str} {v : V} {sp : Sp} {E : XK} {t : TA} {σ : Sl}
theorem x_fldF (s : S F L H) (h : cel x (.ins C dx fs) ∈ F) (hc : Cls K C) (hn : NoAttr K C f) (hl : fs.lookup f = some v) (q : Q v H) : rFld K f (.ref x) H Q := x_fld (s_cel s h) hc hn hl q
theorem x_fldL (s : S F L H) (h : (x, .ins C dx fs) ∈ L) (hc : Cls K C) (hn : NoAttr K C f) (hl : fs.lookup f = some v) (q : Q v H) : rFld K f (.ref x) H Q := x_fld (s.at_ h) hc hn hl q
theorem x_hm (s : S F L H) (h : hallP K x d ∈ F) (hc : Cls K (hC K)) (hn : NoAttr K (hC K) "modulus") (q : Q (.int d.m) H) : rFld K (Str.ofString "modulus") (.ref x) H Q := by
  obtain ⟨dx, pt, pc, pl, ql, h1, _⟩ := s.phi h
  exact x_fld h1 hc hn hfs_m q
theorem x_hl (s : S F L H) (h : hallP K x d ∈ F) (hc : Cls K (hC K)) (hn : NoAttr K (hC K) "lateness") (q : Q (.int d.lt) H) : rFld K (Str.ofString "lateness") (.ref x) H Q := by
  obtain ⟨dx, pt, pc, pl, ql, h1, _⟩ := s.phi h
  exact x_fld h1 hc hn hfs_l q
theorem x_hn (s : S F L H) (h : hallP K x d ∈ F) (hc : Cls K (hC K)) (hn : NoAttr K (hC K) "length") (q : Q (.int d.per) H) : rFld K (Str.ofString "length") (.ref x) H Q := by
  obtain ⟨dx, pt, pc, pl, ql, h1, _⟩ := s.phi h
  exact x_fld h1 hc hn hfs_n q
theorem x_ht (s : S F L H) (h : hallP K x d ∈ F) (hc : Cls K (hC K)) (hn : NoAttr K (hC K) "takes") (q : ∀ pt, S (tuF K pt (d.tk.map V.int) :: F) L H → Q (.ref pt) H) : rFld K (Str.ofString "takes") (.ref x) H Q := by
  obtain ⟨dx, pt, pc, pl, ql, h1⟩ := s.hall h
  exact x_fldF h1 List.mem_cons_self hc hn hfs_t (q pt (h1.mono (fun g hg => by
    rcases List.mem_cons.mp hg with rfl | hg
    · exact List.mem_cons_of_mem _ List.mem_cons_self
    · exact List.mem_cons_of_mem _ (List.mem_cons_of_mem _ (List.mem_cons_of_mem _ (List.mem_cons_of_mem _ (List.mem_cons_of_mem _ hg))))) (List.Sublist.refl _)))
theorem x_hc (s : S F L H) (h : hallP K x d ∈ F) (hc : Cls K (hC K)) (hn : NoAttr K (hC K) "calls") (q : ∀ pt, S (tuF K pt (d.cl.map V.int) :: F) L H → Q (.ref pt) H) : rFld K (Str.ofString "calls") (.ref x) H Q := by
  obtain ⟨dx, pt, pc, pl, ql, h1⟩ := s.hall h
  exact x_fldF h1 List.mem_cons_self hc hn hfs_c (q pc (h1.mono (fun g hg => by
    rcases List.mem_cons.mp hg with rfl | hg
    · exact List.mem_cons_of_mem _ (List.mem_cons_of_mem _ List.mem_cons_self)
    · exact List.mem_cons_of_mem _ (List.mem_cons_of_mem _ (List.mem_cons_of_mem _ (List.mem_cons_of_mem _ (List.mem_cons_of_mem _ hg))))) (List.Sublist.refl _)))
/-- a method of a hall -/
theorem x_methH (s : S F L H) (h : hallP K x d ∈ F) (hl : ∀ pt pc pl ql, (hfs d pt pc pl ql).lookup m = none) (q : t σ H fun vs H2 => sp (.ref x :: vs) H2 Q E) : rMeth (hC K) m sp E t σ (.ref x) H Q := by
  obtain ⟨dx, pt, pc, pl, ql, h1, _⟩ := s.phi h
  exact ⟨x, dx, _, rfl, h1, hl _ _ _ _, q⟩
theorem x_propH (s : S F L H) (h : hallP K x d ∈ F) (q : sp [.ref x] H Q E) : rProp (hC K) sp E (.ref x) H Q := by
  obtain ⟨dx, pt, pc, pl, ql, h1, _⟩ := s.phi h
  exact ⟨x, dx, _, rfl, h1, q⟩
/-- a field stored -/
def rSfld (K : PySem.W.Frag) (f : Str) (x v : V) (H : Hp) (Q : Hp → Prop) : Prop := ∃ a C dx fs, x = .ref a ∧ H a = some (.ins C dx fs) ∧ Cls K C ∧ NoAttr K C f ∧ fs.length < 1000 ∧ Q (upd H a (.ins C dx (putF f v fs)))
theorem r_sfld {ta tv : TE} {D : Ends} (h : tv σ H fun y H1 => ta σ H1 fun z H2 => rSfld K f z y H2 fun H3 => D.nx σ H3) : sFld K ta tv f D σ H := h
theorem x_sfld {Q : Hp → Prop} (s : S F L H) (h : Put x (.ins C dx fs) (.ins C dx (putF f v fs)) L L') (hc : Cls K C) (hn : NoAttr K C f) (hl : fs.length < 1000) (q : ∀ H1, S F L' H1 → Q H1) : rSfld K f (.ref x) v H Q :=
  ⟨x, C, dx, fs, rfl, s.at_ h.mem, hc, hn, hl, q _ (s.put h)⟩
theorem at_map {g : Nat → V} {n : Nat} {i : Int} (h0 : 0 ≤ i) (h1 : i < n) : atI ((List.range n).map g) i = some (g i.toNat) := by
  obtain ⟨j, rfl⟩ : ∃ j : Nat, i = j := ⟨i.toNat, by omega⟩
  rw [Int.toNat_natCast]
  refine atI_nat ?_
  rw [List.getElem?_map, List.getElem?_range (by omega)]
  rfl
theorem at_ints {xs : List Int} {i : Int} (h0 : 0 ≤ i) (h1 : i < xs.length) : atI (xs.map V.int) i = some (.int (xs.getD i.toNat 0)) := by
  obtain ⟨j, rfl⟩ : ∃ j : Nat, i = j := ⟨i.toNat, by omega⟩
  rw [Int.toNat_natCast]
  refine atI_nat ?_
  rw [List.getElem?_map, List.getD_eq_getElem?_getD, List.getElem?_eq_getElem (by omega)]
  rfl
theorem x_lenTI {ns : List Int} {p : Addr} (h : SqT K H p (ns.map V.int)) (q : Q (.int ns.length) H) : rLenA K [.ref p] H Q := x_lenT h (by rw [List.length_map]; exact q)
theorem x_lenLI {ns : List Int} {p : Addr} (h : SqL K H p (ns.map V.int)) (q : Q (.int ns.length) H) : rLenA K [.ref p] H Q := x_lenL h (by rw [List.length_map]; exact q)
theorem x_ixLm {g : Nat → V} {n : Nat} {i : Int} {p : Addr} (h : SqL K H p ((List.range n).map g)) (h0 : 0 ≤ i) (h1 : i < n) (q : Q (g i.toNat) H) : rIx K (.ref p) (.int i) H Q := x_ixL h (at_map h0 h1) q
theorem x_ixLi {ns : List Int} {i : Int} {p : Addr} (h : SqL K H p (ns.map V.int)) (h0 : 0 ≤ i) (h1 : i < ns.length) (q : Q (.int (ns.getD i.toNat 0)) H) : rIx K (.ref p) (.int i) H Q := x_ixL h (at_ints h0 h1) q
theorem x_ixTi {ns : List Int} {i : Int} {p : Addr} (h : SqT K H p (ns.map V.int)) (h0 : 0 ≤ i) (h1 : i < ns.length) (q : Q (.int (ns.getD i.toNat 0)) H) : rIx K (.ref p) (.int i) H Q := x_ixT h (at_ints h0 h1) q
theorem x_ixLl {zs : List V} {p : Addr} {y : V} (h : SqL K H p (zs ++ [y])) (q : Q y H) : rIx K (.ref p) (.int (-1)) H Q := x_ixL h (atI_last zs y) q
theorem x_ixLz {g : Nat → V} {n : Nat} {p : Addr} (h : SqL K H p ((List.range (n + 1)).map g)) (q : Q (g n) H) : rIx K (.ref p) (.int (-1)) H Q := by
  rw [List.range_succ, List.map_append] at h
  exact x_ixLl h q
theorem range_snoc {g : Nat → V} {n : Nat} {v : V} (e : v = g n) : (List.range n).map g ++ [v] = (List.range (n + 1)).map g := by
  rw [List.range_succ, List.map_append, e]; rfl
theorem toNat_mod {i n : Nat} : (((0 : Int) + (i : Int)) % (n : Int)).toNat = i % n := by
  rw [Int.zero_add, show (i : Int) % (n : Int) = ((i % n : Nat) : Int) from rfl, Int.toNat_natCast]
theorem at_lastI {xs : List V} (v : V) : atI (xs ++ [v]) (-1) = some v := atI_last xs v
end
/-! ### the promises of the package's defs -/
def isIn (x : V) (lo hi : Int) : Bool := match x with
  | .int i => decide (lo ≤ i ∧ i ≤ hi)
  | _ => false
theorem isIn_no {K : PySem.W.Frag} {H : Hp} {x : V} {n : String} {lo hi : Int} (h : TyX K H x (.type n)) (ne : n ≠ "int") : isIn x lo hi = false := by
  cases x with
  | int i =>
    refine absurd ?_ ne
    have : ∀ {t : Value}, TyX K H (.int i) t → t = .type "int" := fun {t} h => by
      cases h with
      | base h => cases h; rfl
    have e := this h
    injection e
  | _ => rfl
def spIsInt (K : PySem.W.Frag) : Sp := fun vs H Q _ => ∃ (F : List MP) (L : List (Addr × HO)) (x : V) (lo hi : Int) (n : String), vs = [x, .int lo, .int hi] ∧ n ∈ kinds ∧ TyX K H x (.type n) ∧ S F L H ∧ ∀ H', S F L H' → Q (.bl (isIn x lo hi)) H'
def spGcd : Sp := fun vs H Q _ => ∃ (F : List MP) (L : List (Addr × HO)) (a b : Nat), vs = [.int a, .int b] ∧ S F L H ∧ ∀ H', S F L H' → Q (.int (Nat.gcd a b)) H'
def spLcm : Sp := fun vs H Q _ => ∃ (F : List MP) (L : List (Addr × HO)) (a b : Nat), vs = [.int a, .int b] ∧ 0 < a ∧ 0 < b ∧ a < 2 ^ 32 ∧ b < 2 ^ 32 ∧ S F L H ∧ ∀ H', S F L H' → Q (.int (Nat.lcm a b)) H'
def spCheckTick : Sp := fun vs H Q _ => ∃ (F : List MP) (L : List (Addr × HO)) (t : Int), vs = [.int t] ∧ 0 ≤ t ∧ t ≤ 1000000000000000000 ∧ S F L H ∧ ∀ H', S F L H' → Q .non H'
def spCheckEntries (K : PySem.W.Frag) : Sp := fun vs H Q _ => ∃ (F : List MP) (L : List (Addr × HO)) (x : V) (p : Addr) (xs : List Int), vs = [x, .ref p] ∧ 0 < xs.length ∧ xs.length ≤ 12 ∧ (∀ y ∈ xs, 0 ≤ y ∧ y ≤ 9) ∧ Ent F (tuF K p (xs.map V.int)) ∧ S F L H ∧ ∀ H', S F L H' → Q .non H'
def spInit (K : PySem.W.Frag) : Sp := fun vs H Q _ => ∃ (F : List MP) (L L' : List (Addr × HO)) (x dx pt pc : Addr) (d : HD), vs = [.ref x, .int d.m, .ref pt, .ref pc, .int d.lt] ∧ d.ok ∧ Ent F (tuF K pt (d.tk.map V.int)) ∧ Ent F (tuF K pc (d.cl.map V.int)) ∧
  Pull (x, .ins (hC K) dx []) L L' ∧ S F L H ∧ ∀ H', S (hallP K x d :: F) L' H' → Q .non H'
def spPeriod (K : PySem.W.Frag) : Sp := fun vs H Q _ => ∃ (F : List MP) (L : List (Addr × HO)) (x : Addr) (d : HD), vs = [.ref x] ∧ hallP K x d ∈ F ∧ S F L H ∧ ∀ H', S F L H' → Q (.int d.per) H'
def spGrowth (K : PySem.W.Frag) : Sp := fun vs H Q _ => ∃ (F : List MP) (L : List (Addr × HO)) (x : Addr) (d : HD), vs = [.ref x] ∧ d.ok ∧ hallP K x d ∈ F ∧ S F L H ∧ ∀ H', S F L H' → Q (.int d.gr) H'
def spTaken (K : PySem.W.Frag) : Sp := fun vs H Q _ => ∃ (F : List MP) (L : List (Addr × HO)) (x : Addr) (d : HD) (t : Int), vs = [.ref x, .int t] ∧ d.ok ∧ hallP K x d ∈ F ∧ 0 ≤ t ∧ S F L H ∧ ∀ H', S F L H' → Q (.int (d.T t.toNat)) H'
def spCalled (K : PySem.W.Frag) : Sp := fun vs H Q _ => ∃ (F : List MP) (L : List (Addr × HO)) (x : Addr) (d : HD) (t : Int), vs = [.ref x, .int t] ∧ d.ok ∧ hallP K x d ∈ F ∧ S F L H ∧ ∀ H', S F L H' → Q (.int (d.C t.toNat)) H'
def spWaiting (K : PySem.W.Frag) : Sp := fun vs H Q _ => ∃ (F : List MP) (L : List (Addr × HO)) (x : Addr) (d : HD) (t : Int), vs = [.ref x, .int t] ∧ d.ok ∧ hallP K x d ∈ F ∧ 0 ≤ t ∧ t ≤ 1000000000000000000 ∧ S F L H ∧ ∀ H', S F L H' → Q (.int (d.W (t.toNat + 1))) H'
section
variable {K : PySem.W.Frag} {H : Hp} {Q : VK} {E : XK} {F : List MP} {L L' : List (Addr × HO)} {x dx pt pc p : Addr} {d : HD} {y : V} {i lo hi t : Int} {a b : Nat} {n : String} {xs : List Int}
theorem c_isInt (s : S F L H) (h : ∀ H', S F L H' → Q (.bl (decide (lo ≤ i ∧ i ≤ hi))) H') : spIsInt K [.int i, .int lo, .int hi] H Q E := ⟨F, L, .int i, lo, hi, "int", rfl, by simp [kinds], ty_int, s, h⟩
theorem c_gcd (s : S F L H) (h : ∀ H', S F L H' → Q (.int (Nat.gcd a b)) H') : spGcd [.int a, .int b] H Q E := ⟨F, L, a, b, rfl, s, h⟩
theorem c_lcm (s : S F L H) (h0 : 0 < a) (h1 : 0 < b) (h2 : a < 4294967296) (h3 : b < 4294967296) (h : ∀ H', S F L H' → Q (.int (Nat.lcm a b)) H') : spLcm [.int a, .int b] H Q E := ⟨F, L, a, b, rfl, h0, h1, h2, h3, s, h⟩
theorem c_checkTick (s : S F L H) (h0 : 0 ≤ t) (h1 : t ≤ 1000000000000000000) (h : ∀ H', S F L H' → Q .non H') : spCheckTick [.int t] H Q E := ⟨F, L, t, rfl, h0, h1, s, h⟩
theorem c_checkEntries (s : S F L H) (e : Ent F (tuF K p (xs.map V.int))) (h0 : 0 < xs.length) (h1 : xs.length ≤ 12) (h2 : ∀ y ∈ xs, 0 ≤ y ∧ y ≤ 9) (h : ∀ H', S F L H' → Q .non H') : spCheckEntries K [y, .ref p] H Q E := ⟨F, L, y, p, xs, rfl, h0, h1, h2, e, s, h⟩
theorem c_period (s : S F L H) (e : hallP K x d ∈ F) (h : ∀ H', S F L H' → Q (.int d.per) H') : spPeriod K [.ref x] H Q E := ⟨F, L, x, d, rfl, e, s, h⟩
theorem c_growth (s : S F L H) (e : hallP K x d ∈ F) (ok : d.ok) (h : ∀ H', S F L H' → Q (.int d.gr) H') : spGrowth K [.ref x] H Q E := ⟨F, L, x, d, rfl, ok, e, s, h⟩
theorem c_taken (s : S F L H) (e : hallP K x d ∈ F) (ok : d.ok) (h0 : 0 ≤ t) (h : ∀ H', S F L H' → Q (.int (d.T t.toNat)) H') : spTaken K [.ref x, .int t] H Q E := ⟨F, L, x, d, t, rfl, ok, e, h0, s, h⟩
theorem c_called (s : S F L H) (e : hallP K x d ∈ F) (ok : d.ok) (h : ∀ H', S F L H' → Q (.int (d.C t.toNat)) H') : spCalled K [.ref x, .int t] H Q E := ⟨F, L, x, d, t, rfl, ok, e, s, h⟩
theorem c_waiting (s : S F L H) (e : hallP K x d ∈ F) (ok : d.ok) (h0 : 0 ≤ t) (h1 : t ≤ 1000000000000000000) (h : ∀ H', S F L H' → Q (.int (d.W (t.toNat + 1))) H') : spWaiting K [.ref x, .int t] H Q E := ⟨F, L, x, d, t, rfl, ok, e, h0, h1, s, h⟩
end
end TW
namespace TW
open PySem PySem.Spec PyProof.Rows L2
/-! ### equality of data -/
theorem eqv_ints : ∀ (xs ys : List Int), PyData.eqvAll (xs.map PyData.int) (ys.map PyData.int) = decide (xs = ys)
  | [], [] => rfl
  | [], y :: ys => by simp [PyData.eqvAll]
  | x :: xs, [] => by simp [PyData.eqvAll]
  | x :: xs, y :: ys => by
    simp only [List.map_cons, PyData.eqvAll, PyData.eqv, eqv_ints xs ys]
    by_cases e : x = y <;> by_cases e2 : xs = ys <;> simp [e, e2]
theorem can_ints : ∀ xs : List Int, PyData.canLayAll0 (xs.map PyData.int) = true
  | [] => rfl
  | x :: xs => by simp only [List.map_cons, PyData.canLayAll0, PyData.canLay0, can_ints xs]; rfl
theorem dep_ints : ∀ xs : List Int, PyData.depthAll (xs.map PyData.int) = 0
  | [] => rfl
  | x :: xs => by simp only [List.map_cons, PyData.depthAll, PyData.depth, dep_ints xs]; rfl
theorem sh_tup (xs : List Int) : SeqAt.shaped (.tuple (xs.map PyData.int)) = true := by
  simp [SeqAt.shaped, PyData.canLay0, PyData.depth, can_ints, dep_ints]
theorem sh_lst (xs : List Int) : SeqAt.shaped (.list (xs.map PyData.int)) = true := by
  simp [SeqAt.shaped, PyData.canLay0, PyData.depth, can_ints, dep_ints]
section
variable {K : PySem.W.Frag} {H : Hp} {Q : VK} {p q : Addr} {xs ys : List Int} {i : Int}
theorem dp_ints : ∀ xs : List Int, DpAll K H (xs.map V.int) (xs.map PyData.int)
  | [] => .nil
  | x :: xs => .cons (.int x) (dp_ints xs)
theorem x_eqTI (h1 : SqT K H p (xs.map V.int)) (h2 : SqT K H q (ys.map V.int)) (k : Q (.bl (decide (xs = ys))) H) : rEqA K (.ref p) (.ref q) H Q :=
  .inr ⟨_, _, .tup h1 (dp_ints xs), .tup h2 (dp_ints ys), sh_tup _, sh_tup _, by simp only [PyData.eqv, eqv_ints]; exact k⟩
theorem x_eqT0 (h1 : SqT K H p (xs.map V.int)) (h2 : SqT K H q []) (k : Q (.bl (decide (xs = []))) H) : rEqA K (.ref p) (.ref q) H Q := x_eqTI (ys := []) h1 h2 k
theorem x_neTI (h1 : SqT K H p (xs.map V.int)) (h2 : SqT K H q (ys.map V.int)) (k : Q (.bl (!decide (xs = ys))) H) : rNeA K (.ref p) (.ref q) H Q :=
  .inr ⟨_, _, .tup h1 (dp_ints xs), .tup h2 (dp_ints ys), sh_tup _, sh_tup _, by simp only [PyData.eqv, eqv_ints]; exact k⟩
theorem x_neT0 (h1 : SqT K H p (xs.map V.int)) (h2 : SqT K H q []) (k : Q (.bl (!decide (xs = []))) H) : rNeA K (.ref p) (.ref q) H Q := x_neTI (ys := []) h1 h2 k
theorem x_eqLI (h1 : SqL K H p (xs.map V.int)) (h2 : SqL K H q (ys.map V.int)) (k : Q (.bl (decide (xs = ys))) H) : rEqA K (.ref p) (.ref q) H Q :=
  .inr ⟨_, _, .lst h1 (dp_ints xs), .lst h2 (dp_ints ys), sh_lst _, sh_lst _, by simp only [PyData.eqv, eqv_ints]; exact k⟩
theorem x_eqL0 (h1 : SqL K H p (xs.map V.int)) (h2 : SqL K H q []) (k : Q (.bl (decide (xs = []))) H) : rEqA K (.ref p) (.ref q) H Q := x_eqLI (ys := []) h1 h2 k
theorem x_neLI (h1 : SqL K H p (xs.map V.int)) (h2 : SqL K H q (ys.map V.int)) (k : Q (.bl (!decide (xs = ys))) H) : rNeA K (.ref p) (.ref q) H Q :=
  .inr ⟨_, _, .lst h1 (dp_ints xs), .lst h2 (dp_ints ys), sh_lst _, sh_lst _, by simp only [PyData.eqv, eqv_ints]; exact k⟩
theorem x_neL0 (h1 : SqL K H p (xs.map V.int)) (h2 : SqL K H q []) (k : Q (.bl (!decide (xs = []))) H) : rNeA K (.ref p) (.ref q) H Q := x_neLI (ys := []) h1 h2 k
end
/-! ### all of a heap as one fact -/
def allP (H0 : Hp) : MP := ⟨fun E => Same H0 E, fun _ _ e h => h.trans e⟩
theorem s_all (H : Hp) : S [allP H] [] H := ⟨⟨H, Same.refl H, fun f hf => by
  rw [List.mem_singleton.mp hf]
  exact Same.refl H, fun _ z => nomatch z⟩, (fun _ z => nomatch z), List.nodup_nil⟩
theorem S.sm {F L} {H H0 : Hp} (s : S F L H) (h : allP H0 ∈ F) : Same H0 H := s.phi h
/-- a value that reads as data -/
theorem dpM {K : PySem.W.Frag} {E E' : Hp} (e : Same E E') : ∀ {v : V} {d : PyData}, Dp K E v d → Dp K E' v d := by
  intro v d h
  exact Dp.rec (motive_1 := fun v d _ => Dp K E' v d) (motive_2 := fun vs ds _ => DpAll K E' vs ds) .non (fun b => .bl b) (fun i => .int i) (fun z => .str z)
    (fun h _ ih => .lst (sqL_mono e h) ih) (fun h _ ih => .tup (sqT_mono e h) ih) .nil (fun _ _ h1 h2 => .cons h1 h2) h
def dtP (K : PySem.W.Frag) (v : V) (d : PyData) : MP := ⟨fun E => Dp K E v d, fun _ _ e h => dpM e h⟩
end TW
namespace TW
open PySem PySem.Spec PyProof.Rows L2
theorem S.sub {F F' : List MP} {L L' : List (Addr × HO)} {H : Hp} (s : S F L H) (hF : F'.Sublist F) (hL : L'.Sublist L) : S F' L' H := s.mono (fun _ hf => hF.subset hf) hL
/-! ### what the laws' own defs promise -/
def partsP (K : PySem.W.Frag) (p : Addr) (h : HD) : MP :=
  ⟨fun E => ∃ pt pc, SqT K E p [.int h.m, .ref pt, .ref pc, .int h.lt] ∧ SqT K E pt (h.tk.map V.int) ∧ SqT K E pc (h.cl.map V.int),
   fun _ _ e ⟨pt, pc, h1, h2, h3⟩ => ⟨pt, pc, sqT_mono e h1, sqT_mono e h2, sqT_mono e h3⟩⟩
section
variable {K : PySem.W.Frag} {H : Hp} {Q : VK} {E : XK} {F : List MP} {L L' : List (Addr × HO)} {p pt pc : Addr} {h : HD} {xs ys : List V} {r a b c : Int}
theorem s_parts (s : S F L H) (h1 : Ent F (tuF K p [.int h.m, .ref pt, .ref pc, .int h.lt])) (h2 : Ent F (tuF K pt (h.tk.map V.int))) (h3 : Ent F (tuF K pc (h.cl.map V.int))) : S (partsP K p h :: F) L H :=
  s.put_ _ fun E e => ⟨pt, pc, h1 E e, h2 E e, h3 E e⟩
theorem S.parts (s : S F L H) (m : partsP K p h ∈ F) : ∃ pt pc, S (tuF K p [.int h.m, .ref pt, .ref pc, .int h.lt] :: tuF K pt (h.tk.map V.int) :: tuF K pc (h.cl.map V.int) :: F) L H := by
  obtain ⟨E, h1, h2, h3⟩ := s.ex
  obtain ⟨pt, pc, a1, a2, a3⟩ := h2 _ m
  refine ⟨pt, pc, ⟨E, h1, fun f hf => ?_, h3⟩, s.cell, s.nd⟩
  rcases List.mem_cons.mp hf with rfl | hf
  · exact a1
  rcases List.mem_cons.mp hf with rfl | hf
  · exact a2
  rcases List.mem_cons.mp hf with rfl | hf
  · exact a3
  exact h2 f hf
theorem x_p0 (s : S F L H) (m : partsP K p h ∈ F) (q : Q (.int h.m) H) : rIx K (.ref p) (.int 0) H Q := by
  obtain ⟨pt, pc, h1, _⟩ := s.phi m
  exact x_ixT h1 rfl q
theorem x_p3 (s : S F L H) (m : partsP K p h ∈ F) (q : Q (.int h.lt) H) : rIx K (.ref p) (.int 3) H Q := by
  obtain ⟨pt, pc, h1, _⟩ := s.phi m
  exact x_ixT h1 rfl q
theorem x_p1 (s : S F L H) (m : partsP K p h ∈ F) (q : ∀ pt, S (tuF K pt (h.tk.map V.int) :: F) L H → Q (.ref pt) H) : rIx K (.ref p) (.int 1) H Q := by
  obtain ⟨pt, pc, s⟩ := s.parts m
  exact x_ixT (s.phi List.mem_cons_self) rfl (q pt (s.mono (fun g hg => by
    rcases List.mem_cons.mp hg with rfl | hg
    · exact List.mem_cons_of_mem _ List.mem_cons_self
    · exact List.mem_cons_of_mem _ (List.mem_cons_of_mem _ (List.mem_cons_of_mem _ hg))) (List.Sublist.refl _)))
theorem x_p2 (s : S F L H) (m : partsP K p h ∈ F) (q : ∀ pt, S (tuF K pt (h.cl.map V.int) :: F) L H → Q (.ref pt) H) : rIx K (.ref p) (.int 2) H Q := by
  obtain ⟨pt, pc, s⟩ := s.parts m
  exact x_ixT (s.phi List.mem_cons_self) rfl (q pc (s.mono (fun g hg => by
    rcases List.mem_cons.mp hg with rfl | hg
    · exact List.mem_cons_of_mem _ (List.mem_cons_of_mem _ List.mem_cons_self)
    · exact List.mem_cons_of_mem _ (List.mem_cons_of_mem _ (List.mem_cons_of_mem _ hg))) (List.Sublist.refl _)))
theorem x_ix2I (hs : SqL K H p [.int a, .int b]) (h0 : 0 ≤ r) (h1 : r < 2) (q : ∀ v : Int, (v = a ∨ v = b) → Q (.int v) H) : rIx K (.ref p) (.int r) H Q := by
  rcases (show r = 0 ∨ r = 1 by omega) with rfl | rfl
  · exact x_ixL hs rfl (q _ (.inl rfl))
  · exact x_ixL hs rfl (q _ (.inr rfl))
theorem x_ix3I (hs : SqL K H p [.int a, .int b, .int c]) (h0 : 0 ≤ r) (h1 : r < 3) (q : ∀ v : Int, (v = a ∨ v = b ∨ v = c) → Q (.int v) H) : rIx K (.ref p) (.int r) H Q := by
  rcases (show r = 0 ∨ r = 1 ∨ r = 2 by omega) with rfl | rfl | rfl
  · exact x_ixL hs rfl (q _ (.inl rfl))
  · exact x_ixL hs rfl (q _ (.inr (.inl rfl)))
  · exact x_ixL hs rfl (q _ (.inr (.inr rfl)))
theorem x_ix2R (lo hi : Int) (hs : SqL K H p [.int a, .int b]) (h0 : 0 ≤ r) (h1 : r < 2) (ha : lo ≤ a ∧ a ≤ hi) (hb : lo ≤ b ∧ b ≤ hi) (q : ∀ v : Int, lo ≤ v → v ≤ hi → Q (.int v) H) : rIx K (.ref p) (.int r) H Q :=
  x_ix2I hs h0 h1 fun v hv => q v (by omega) (by omega)
theorem x_ix3R (lo hi : Int) (hs : SqL K H p [.int a, .int b, .int c]) (h0 : 0 ≤ r) (h1 : r < 3) (ha : lo ≤ a ∧ a ≤ hi) (hb : lo ≤ b ∧ b ≤ hi) (hc : lo ≤ c ∧ c ≤ hi) (q : ∀ v : Int, lo ≤ v → v ≤ hi → Q (.int v) H) : rIx K (.ref p) (.int r) H Q :=
  x_ix3I hs h0 h1 fun v hv => q v (by omega) (by omega)
theorem x_pow1018 (q : Q (.int 1000000000000000000) H) : rPowA (.int 10) (.int 18) H Q := x_pow ⟨by decide, by decide, by decide⟩ q
theorem x_pow106 (q : Q (.int 1000000) H) : rPowA (.int 10) (.int 6) H Q := x_pow ⟨by decide, by decide, by decide⟩ q
theorem x_catL {q : Addr} (s : S F L H) (h1 : (p, .lst xs) ∈ L) (h2 : (q, .lst ys) ∈ L) (hl : xs.length + ys.length ≤ sizeLine) (k : ∀ l H1, S F ((l, .lst (xs ++ ys)) :: L) H1 → Q (.ref l) H1) : rAddA K (.ref p) (.ref q) H Q := x_cat s (s.at_ h1) (s.at_ h2) hl k
theorem x_eqB {u w : Bool} (q : Q (.bl (decide (u = w))) H) : rEqA K (.bl u) (.bl w) H Q := .inl ⟨rfl, by rw [dB]; exact q⟩
theorem x_eqIs {i : Int} (q : Q (.bl true) H) : rEqA K (.int i) (.int i) H Q := .inl ⟨rfl, by rw [decide_eq_true rfl]; exact q⟩
theorem x_neIs {i : Int} (q : Q (.bl false) H) : rNeA K (.int i) (.int i) H Q := .inl ⟨rfl, by rw [decide_eq_true rfl]; exact q⟩
theorem x_eqBs {u : Bool} (q : Q (.bl true) H) : rEqA K (.bl u) (.bl u) H Q := .inl ⟨rfl, by rw [decide_eq_true rfl]; exact q⟩
theorem x_neBs {u : Bool} (q : Q (.bl false) H) : rNeA K (.bl u) (.bl u) H Q := .inl ⟨rfl, by rw [decide_eq_true rfl]; exact q⟩
theorem at0 {xs : List V} {i : Nat} {v : V} (h : xs[i]? = some v) : atI xs (0 + (i : Int)) = some v := by rw [Int.zero_add]; exact atI_nat h
theorem r_mk {R : Prop} (q : R) : V.non = V.non ∧ R := ⟨rfl, q⟩
theorem x_allT {n : Nat} (hs : SqL K H p ((List.replicate n true).map V.bl)) (q : Q (.bl true) H) : rAll K [.ref p] H Q := ⟨p, _, rfl, hs, by
  rw [show (List.replicate n true).all id = true by rw [List.all_eq_true]; intro x hx; rw [List.eq_of_mem_replicate hx]; rfl]
  exact q⟩
end
theorem toNat_i {i : Nat} : ((0 : Int) + (i : Int)).toNat = i := by omega
theorem range_zero {g : Nat → V} : (List.range 0).map g = [] := rfl
theorem g_dec {P : Prop} [Decidable P] {G : Bool → Hp → Prop} {H : Hp} (h1 : P → G true H) (h2 : ¬ P → G false H) : G (decide P) H := by
  by_cases h : P
  · rw [decide_eq_true h]; exact h1 h
  · rw [decide_eq_false h]; exact h2 h
/-! equal data -/
inductive Atom : V → V → Prop where
  | non : Atom .non .non
  | bl {b} : Atom (.bl b) (.bl b)
  | int {i j} : i = j → Atom (.int i) (.int j)
  | str {s} : Atom (.str s) (.str s)
inductive Fa2 (R : V → V → Prop) : List V → List V → Prop where
  | nil : Fa2 R [] []
  | cons {x y xs ys} : R x y → Fa2 R xs ys → Fa2 R (x :: xs) (y :: ys)
theorem Fa2.len {R : V → V → Prop} {xs ys : List V} (h : Fa2 R xs ys) : xs.length = ys.length := by
  induction h with
  | nil => rfl
  | cons _ _ ih => rw [List.length_cons, List.length_cons, ih]
theorem Fa2.get {R : V → V → Prop} {xs ys : List V} (h : Fa2 R xs ys) : ∀ i : Nat, i < ys.length → ∃ x y, xs[i]? = some x ∧ ys[i]? = some y ∧ R x y := by
  induction h with
  | nil => intro i hi; cases hi
  | cons r _ ih =>
    intro i hi
    cases i with
    | zero => exact ⟨_, _, rfl, rfl, r⟩
    | succ i => exact ih i (by simpa using hi)
theorem Fa2.of {R : V → V → Prop} : ∀ {xs ys : List V}, xs.length = ys.length → (∀ (i : Nat) x y, xs[i]? = some x → ys[i]? = some y → R x y) → Fa2 R xs ys
  | [], [], _, _ => .nil
  | [], y :: ys, h, _ => by cases h
  | x :: xs, [], h, _ => by cases h
  | x :: xs, y :: ys, h, g => .cons (g 0 x y rfl rfl) (Fa2.of (by simpa using h) fun i a b h1 h2 => g (i + 1) a b h1 h2)
def Eq2 (K : PySem.W.Frag) (H : Hp) : Nat → V → V → Prop
  | 0, x, y => Atom x y
  | n + 1, x, y => Atom x y ∨ ∃ p q xs ys, x = .ref p ∧ y = .ref q ∧ ys.length ≤ 100000 ∧ ((SqT K H p xs ∧ SqT K H q ys) ∨ (SqL K H p xs ∧ SqL K H q ys)) ∧ Fa2 (Eq2 K H n) xs ys
theorem eq2_mono {K : PySem.W.Frag} {H H' : Hp} (e : Same H H') : ∀ {n : Nat} {x y : V}, Eq2 K H n x y → Eq2 K H' n x y := by
  intro n
  induction n with
  | zero => exact fun h => h
  | succ n ih =>
    intro x y h
    rcases h with h | ⟨p, q, xs, ys, rfl, rfl, hl, hs, hf⟩
    · exact .inl h
    · refine .inr ⟨p, q, xs, ys, rfl, rfl, hl, ?_, ?_⟩
      · rcases hs with ⟨h1, h2⟩ | ⟨h1, h2⟩
        · exact .inl ⟨sqT_mono e h1, sqT_mono e h2⟩
        · exact .inr ⟨sqL_mono e h1, sqL_mono e h2⟩
      · clear hs hl
        induction hf with
        | nil => exact .nil
        | cons r _ ih2 => exact .cons (ih r) ih2
section
variable {K : PySem.W.Frag} {H : Hp} {n : Nat} {x y : V} {p q : Addr} {xs ys : List V} {i j : Int} {b : Bool} {z : Str}
theorem Eq2.atom (h : Atom x y) : Eq2 K H n x y := by
  cases n with
  | zero => exact h
  | succ n => exact .inl h
theorem Eq2.int (h : i = j) : Eq2 K H n (.int i) (.int j) := .atom (.int h)
theorem Eq2.bl : Eq2 K H n (.bl b) (.bl b) := .atom .bl
theorem Eq2.str : Eq2 K H n (.str z) (.str z) := .atom .str
theorem Eq2.non : Eq2 K H n .non .non := .atom .non
theorem Eq2.tup (h1 : SqT K H p xs) (h2 : SqT K H q ys) (hl : ys.length ≤ 100000) (hf : Fa2 (Eq2 K H n) xs ys) : Eq2 K H (n + 1) (.ref p) (.ref q) := .inr ⟨p, q, xs, ys, rfl, rfl, hl, .inl ⟨h1, h2⟩, hf⟩
theorem Eq2.lst (h1 : SqL K H p xs) (h2 : SqL K H q ys) (hl : ys.length ≤ 100000) (hf : Fa2 (Eq2 K H n) xs ys) : Eq2 K H (n + 1) (.ref p) (.ref q) := .inr ⟨p, q, xs, ys, rfl, rfl, hl, .inr ⟨h1, h2⟩, hf⟩
theorem Fa2.ints {xs : List Int} : Fa2 (Eq2 K H n) (xs.map V.int) (xs.map V.int) := by
  induction xs with
  | nil => exact .nil
  | cons x xs ih => exact .cons (.int rfl) ih
theorem Fa2.intsE {xs ys : List Int} (e : xs = ys) : Fa2 (Eq2 K H n) (xs.map V.int) (ys.map V.int) := by subst e; exact Fa2.ints
end
def spEq (K : PySem.W.Frag) (n : Nat) : Sp := fun vs H Q _ => ∃ x y, vs = [x, y] ∧ Eq2 K H n x y ∧ ∀ H', Same H H' → Q (.bl true) H'
/-! the specs -/
def spLaw (K : PySem.W.Frag) : Sp := fun vs H Q _ => ∃ (a : Addr) (ns : List Int), vs = [.ref a] ∧ ns.length ≤ 63 ∧ SqL K H a (ns.map V.int) ∧ ∀ H', Q (.bl true) H'
def spRandom (K : PySem.W.Frag) : Sp := fun vs H Q _ => ∃ (F : List MP) (L : List (Addr × HO)) (a : Addr) (ns : List Int) (salt : Int), vs = [.ref a, .int salt] ∧ ns.length ≤ 63 ∧ 0 ≤ salt ∧ salt < 2147483647 ∧ liF K a (ns.map V.int) ∈ F ∧ S F L H ∧
  ∀ l D H', DOK D → S F ((l, .lst D) :: L) H' → Q (.ref l) H'
def spPattern (K : PySem.W.Frag) : Sp := fun vs H Q _ => ∃ (F : List MP) (L L' : List (Addr × HO)) (d : Addr) (D : List V) (m : Int), vs = [.ref d, .int m] ∧ 0 < m ∧ m ≤ 12 ∧ DOK D ∧ Pull (d, .lst D) L L' ∧ S F L H ∧
  ∀ p (xs : List Int) D' H', 0 < xs.length → (xs.length : Int) ≤ m → (∀ x ∈ xs, 0 ≤ x ∧ x ≤ 9) → DOK D' → S (tuF K p (xs.map V.int) :: F) ((d, .lst D') :: L') H' → Q (.ref p) H'
/-- hall parts from a limit of entries -/
def spParts (K : PySem.W.Frag) : Sp := fun vs H Q _ => ∃ (F : List MP) (L L' : List (Addr × HO)) (d : Addr) (D : List V) (m : Int), vs = [.ref d, .int m] ∧ 0 < m ∧ m ≤ 12 ∧ DOK D ∧ Pull (d, .lst D) L L' ∧ S F L H ∧
  ∀ p (h : HD) D' H', h.ok → (h.tk.length : Int) ≤ m → (h.cl.length : Int) ≤ m → DOK D' → S (partsP K p h :: F) ((d, .lst D') :: L') H' → Q (.ref p) H'
def spSmall (K : PySem.W.Frag) : Sp := fun vs H Q _ => ∃ (F : List MP) (L L' : List (Addr × HO)) (d : Addr) (D : List V), vs = [.ref d] ∧ DOK D ∧ Pull (d, .lst D) L L' ∧ S F L H ∧
  ∀ p (h : HD) D' H', h.ok → h.tk.length ≤ 3 → h.cl.length ≤ 3 → h.m ≤ 10 → h.lt ≤ 5 → DOK D' → S (partsP K p h :: F) ((d, .lst D') :: L') H' → Q (.ref p) H'
def spHall (K : PySem.W.Frag) : Sp := fun vs H Q _ => ∃ (F : List MP) (L : List (Addr × HO)) (p : Addr) (h : HD), vs = [.ref p] ∧ h.ok ∧ partsP K p h ∈ F ∧ S F L H ∧ ∀ x H', S (hallP K x h :: F) L H' → Q (.ref x) H'
def spLength (K : PySem.W.Frag) : Sp := fun vs H Q _ => ∃ (F : List MP) (L : List (Addr × HO)) (p : Addr) (h : HD), vs = [.ref p] ∧ h.okw ∧ partsP K p h ∈ F ∧ S F L H ∧ ∀ H', S F L H' → Q (.int h.per) H'
def spCounts (K : PySem.W.Frag) : Sp := fun vs H Q _ => ∃ (F : List MP) (L : List (Addr × HO)) (p : Addr) (h : HD) (n : Int), vs = [.ref p, .int n] ∧ 0 ≤ n ∧ n ≤ 900000 ∧ h.okw ∧ partsP K p h ∈ F ∧ S F L H ∧
  ∀ q a b H', S (tuF K q [.ref a, .ref b] :: liF K a (Ts h (n.toNat + 1)) :: liF K b (Cs h (n.toNat + 1)) :: F) L H' → Q (.ref q) H'
def spTick : Sp := fun vs H Q _ => ∃ (F : List MP) (L L' : List (Addr × HO)) (d : Addr) (D : List V), vs = [.ref d] ∧ DOK D ∧ Pull (d, .lst D) L L' ∧ S F L H ∧
  ∀ (t : Int) D' H', 0 ≤ t → t ≤ 1000000000000000000 → DOK D' → S F ((d, .lst D') :: L') H' → Q (.int t) H'
def spAt (K : PySem.W.Frag) : Sp := fun vs H Q _ => ∃ (F : List MP) (L : List (Addr × HO)) (a : Addr) (g : Nat → Int) (n : Nat) (t : Int), vs = [.ref a, .int n, .int t] ∧ 0 < n ∧ n ≤ 144 ∧ (∀ i k : Nat, n ≤ i → g (i + k * n) = g i + k * (g (2 * n) - g n)) ∧
  (-10000 ≤ g (2 * n) - g n ∧ g (2 * n) - g n ≤ 10000) ∧ liF K a ((List.range (3 * n + 1)).map fun i => V.int (g i)) ∈ F ∧ S F L H ∧ ∀ H', S F L H' → Q (.int (g t.toNat)) H'
section
variable {K : PySem.W.Frag} {H : Hp} {Q : VK} {E : XK} {F : List MP} {L L' : List (Addr × HO)} {x dx p pt pc d a : Addr} {h : HD} {D : List V} {ns : List Int} {salt m t : Int} {u v : V} {n : Nat} {g : Nat → Int}
theorem c_equal (s : S F L H) (e : Eq2 K H n u v) (k : ∀ H', S F L H' → Q (.bl true) H') : spEq K n [u, v] H Q E := ⟨u, v, rfl, e, fun H' z => k H' (s.same z)⟩
theorem c_random (s : S F L H) (h1 : liF K a (ns.map V.int) ∈ F) (h2 : ns.length ≤ 63) (h3 : 0 ≤ salt) (h4 : salt < 2147483647) (k : ∀ l D H', DOK D → S F ((l, .lst D) :: L) H' → Q (.ref l) H') : spRandom K [.ref a, .int salt] H Q E := ⟨F, L, a, ns, salt, rfl, h2, h3, h4, h1, s, k⟩
theorem c_below (s : S F L H) (h : DOK D) (hp : Pull (d, .lst D) L L') (h0 : 0 < m) (h1 : m < 18446744073709551616) (k : ∀ r D' H', 0 ≤ r → r < m → DOK D' → S F ((d, .lst D') :: L') H' → Q (.int r) H') : spBelow [.ref d, .int m] H Q E := ⟨F, L, L', d, D, m, rfl, h0, h1, h, hp, s, k⟩
theorem c_pattern (s : S F L H) (h : DOK D) (hp : Pull (d, .lst D) L L') (h0 : 0 < m) (h1 : m ≤ 12) (k : ∀ p (xs : List Int) D' H', 0 < xs.length → (xs.length : Int) ≤ m → (∀ x ∈ xs, 0 ≤ x ∧ x ≤ 9) → DOK D' → S (tuF K p (xs.map V.int) :: F) ((d, .lst D') :: L') H' → Q (.ref p) H') : spPattern K [.ref d, .int m] H Q E := ⟨F, L, L', d, D, m, rfl, h0, h1, h, hp, s, k⟩
theorem c_parts (s : S F L H) (h : DOK D) (hp : Pull (d, .lst D) L L') (h0 : 0 < m) (h1 : m ≤ 12) (k : ∀ p (h : HD) D' H', h.ok → (h.tk.length : Int) ≤ m → (h.cl.length : Int) ≤ m → DOK D' → S (partsP K p h :: F) ((d, .lst D') :: L') H' → Q (.ref p) H') : spParts K [.ref d, .int m] H Q E := ⟨F, L, L', d, D, m, rfl, h0, h1, h, hp, s, k⟩
theorem c_small (s : S F L H) (h : DOK D) (hp : Pull (d, .lst D) L L') (k : ∀ p (h : HD) D' H', h.ok → h.tk.length ≤ 3 → h.cl.length ≤ 3 → h.m ≤ 10 → h.lt ≤ 5 → DOK D' → S (partsP K p h :: F) ((d, .lst D') :: L') H' → Q (.ref p) H') : spSmall K [.ref d] H Q E := ⟨F, L, L', d, D, rfl, h, hp, s, k⟩
theorem c_tick (s : S F L H) (h : DOK D) (hp : Pull (d, .lst D) L L') (k : ∀ (t : Int) D' H', 0 ≤ t → t ≤ 1000000000000000000 → DOK D' → S F ((d, .lst D') :: L') H' → Q (.int t) H') : spTick [.ref d] H Q E := ⟨F, L, L', d, D, rfl, h, hp, s, k⟩
theorem c_hall (s : S F L H) (m : partsP K p h ∈ F) (ok : h.ok) (k : ∀ x H', S (hallP K x h :: F) L H' → Q (.ref x) H') : spHall K [.ref p] H Q E := ⟨F, L, p, h, rfl, ok, m, s, k⟩
theorem c_init (s : S F L H) (ok : h.ok) (et : Ent F (tuF K pt (h.tk.map V.int))) (ec : Ent F (tuF K pc (h.cl.map V.int))) (hp : Pull (x, .ins (hC K) dx []) L L') (k : ∀ H', S (hallP K x h :: F) L' H' → Q .non H') : spInit K [.ref x, .int h.m, .ref pt, .ref pc, .int h.lt] H Q E := ⟨F, L, L', x, dx, pt, pc, h, rfl, ok, et, ec, hp, s, k⟩
theorem c_length (s : S F L H) (m : partsP K p h ∈ F) (ok : h.okw) (k : ∀ H', 0 < h.per → h.per ≤ 144 → S F L H' → Q (.int h.per) H') : spLength K [.ref p] H Q E := ⟨F, L, p, h, rfl, ok, m, s, fun H' => k H' (HD.per_posW ok) (HD.per_leW ok)⟩
theorem c_counts (s : S F L H) (e : partsP K p h ∈ F) (ok : h.okw) (h0 : 0 ≤ m) (h1 : m ≤ 900000) (k : ∀ q a b H', S (tuF K q [.ref a, .ref b] :: liF K a (Ts h (m.toNat + 1)) :: liF K b (Cs h (m.toNat + 1)) :: F) L H' → Q (.ref q) H') : spCounts K [.ref p, .int m] H Q E := ⟨F, L, p, h, m, rfl, h0, h1, ok, e, s, k⟩
theorem c_at {n : Nat} (s : S F L H) (e : liF K a ((List.range (3 * n + 1)).map fun i => V.int (g i)) ∈ F) (h0 : 0 < n) (h1 : n ≤ 144) (hg : ∀ i k : Nat, n ≤ i → g (i + k * n) = g i + k * (g (2 * n) - g n)) (ht : -10000 ≤ g (2 * n) - g n ∧ g (2 * n) - g n ≤ 10000) (k : ∀ H', S F L H' → Q (.int (g t.toNat)) H') : spAt K [.ref a, .int n, .int t] H Q E := ⟨F, L, a, g, n, t, rfl, h0, h1, hg, ht, e, s, k⟩
end
end TW
namespace TW
open PySem PySem.Spec PyProof.Rows L2
/-! ### tickets: what the defs promise -/
def CallAt (d : HD) (n : Int) (v : V) : Prop := (v = .non ∧ d.C d.per ≤ n ∧ d.gain = 0) ∨ ∃ u : Nat, v = .int u ∧ d.C u ≤ n ∧ n < d.C (u + 1)
def Shown (d : HD) (t : Int) : V := if 0 < d.C (t + 1).toNat then .int ((d.C (t + 1).toNat - 1) % d.m) else .non
def spTakeT (K : PySem.W.Frag) : Sp := fun vs H Q _ => ∃ (F : List MP) (L : List (Addr × HO)) (x : Addr) (d : HD) (n : Int), vs = [.ref x, .int n] ∧ d.ok ∧ hallP K x d ∈ F ∧ 0 ≤ n ∧ S F L H ∧
  (d.T d.per = 0 → ∀ H', S F L H' → Q .non H') ∧ ∀ t : Nat, 0 < d.T d.per → d.T t ≤ n → n < d.T (t + 1) → ∀ H', S F L H' → Q (.int t) H'
def spFind (K : PySem.W.Frag) : Sp := fun vs H Q _ => ∃ (F : List MP) (L : List (Addr × HO)) (x : Addr) (d : HD) (b n : Int), vs = [.ref x, .int b, .int n] ∧ d.ok ∧ hallP K x d ∈ F ∧ 0 ≤ b ∧ d.C b.toNat ≤ n ∧ (∃ N : Nat, n < d.C N) ∧ S F L H ∧
  ∀ t : Nat, b.toNat ≤ t → d.C t ≤ n → n < d.C (t + 1) → ∀ H', S F L H' → Q (.int t) H'
def spCallT (K : PySem.W.Frag) : Sp := fun vs H Q _ => ∃ (F : List MP) (L : List (Addr × HO)) (x : Addr) (d : HD) (n : Int), vs = [.ref x, .int n] ∧ d.ok ∧ hallP K x d ∈ F ∧ 0 ≤ n ∧ S F L H ∧ ∀ v, CallAt d n v → ∀ H', S F L H' → Q v H'
def spTimes (K : PySem.W.Frag) : Sp := fun vs H Q _ => ∃ (F : List MP) (L : List (Addr × HO)) (x : Addr) (d : HD) (n : Int), vs = [.ref x, .int n] ∧ d.ok ∧ hallP K x d ∈ F ∧ 0 ≤ n ∧ n ≤ 1000000000000000000 ∧ S F L H ∧
  (d.T d.per = 0 → ∀ H', S F L H' → Q .non H') ∧ ∀ (t : Nat) v p H', 0 < d.T d.per → d.T t ≤ n → n < d.T (t + 1) → CallAt d n v → S (tuF K p [.int t, v] :: F) L H' → Q (.ref p) H'
def spShown (K : PySem.W.Frag) : Sp := fun vs H Q _ => ∃ (F : List MP) (L : List (Addr × HO)) (x : Addr) (d : HD) (t : Int), vs = [.ref x, .int t] ∧ d.ok ∧ hallP K x d ∈ F ∧ S F L H ∧ ∀ H', S F L H' → Q (Shown d t) H'
def spDisplay (K : PySem.W.Frag) : Sp := fun vs H Q _ => ∃ (F : List MP) (L : List (Addr × HO)) (x : Addr) (d : HD) (t : Int), vs = [.ref x, .int t] ∧ d.ok ∧ hallP K x d ∈ F ∧ 0 ≤ t ∧ t ≤ 1000000000000000000 ∧ S F L H ∧ ∀ H', S F L H' → Q (Shown d t) H'
def spLong (K : PySem.W.Frag) : Sp := fun vs H Q _ => ∃ (F : List MP) (L : List (Addr × HO)) (x : Addr) (d : HD), vs = [.ref x] ∧ d.ok ∧ hallP K x d ∈ F ∧ S F L H ∧
  (0 < d.gr → ∀ H', S F L H' → Q .non H') ∧ ∀ w, d.gr = 0 → d.IsLong w → ∀ H', S F L H' → Q (.int w) H'
section
variable {K : PySem.W.Frag} {H : Hp} {Q : VK} {E : XK} {F : List MP} {L L' : List (Addr × HO)} {x : Addr} {d : HD} {t n b : Int} {u w : Bool}
theorem c_takeT (s : S F L H) (e : hallP K x d ∈ F) (ok : d.ok) (h0 : 0 ≤ n) (k0 : d.T d.per = 0 → ∀ H', S F L H' → Q .non H') (k1 : ∀ t : Nat, 0 < d.T d.per → d.T t ≤ n → n < d.T (t + 1) → ∀ H', S F L H' → Q (.int t) H') : spTakeT K [.ref x, .int n] H Q E := ⟨F, L, x, d, n, rfl, ok, e, h0, s, k0, k1⟩
theorem c_find (s : S F L H) (e : hallP K x d ∈ F) (ok : d.ok) (h0 : 0 ≤ b) (h1 : d.C b.toNat ≤ n) (h2 : ∃ N : Nat, n < d.C N) (k : ∀ t : Nat, b.toNat ≤ t → d.C t ≤ n → n < d.C (t + 1) → ∀ H', S F L H' → Q (.int t) H') : spFind K [.ref x, .int b, .int n] H Q E := ⟨F, L, x, d, b, n, rfl, ok, e, h0, h1, h2, s, k⟩
theorem c_callT (s : S F L H) (e : hallP K x d ∈ F) (ok : d.ok) (h0 : 0 ≤ n) (k : ∀ v, CallAt d n v → ∀ H', S F L H' → Q v H') : spCallT K [.ref x, .int n] H Q E := ⟨F, L, x, d, n, rfl, ok, e, h0, s, k⟩
theorem c_times (s : S F L H) (e : hallP K x d ∈ F) (ok : d.ok) (h0 : 0 ≤ n) (h1 : n ≤ 1000000000000000000) (k0 : d.T d.per = 0 → ∀ H', S F L H' → Q .non H') (k1 : ∀ (t : Nat) v p H', 0 < d.T d.per → d.T t ≤ n → n < d.T (t + 1) → CallAt d n v → S (tuF K p [.int t, v] :: F) L H' → Q (.ref p) H') : spTimes K [.ref x, .int n] H Q E := ⟨F, L, x, d, n, rfl, ok, e, h0, h1, s, k0, k1⟩
theorem c_shown (s : S F L H) (e : hallP K x d ∈ F) (ok : d.ok) (k : ∀ H', S F L H' → Q (Shown d t) H') : spShown K [.ref x, .int t] H Q E := ⟨F, L, x, d, t, rfl, ok, e, s, k⟩
theorem c_display (s : S F L H) (e : hallP K x d ∈ F) (ok : d.ok) (h0 : 0 ≤ t) (h1 : t ≤ 1000000000000000000) (k : ∀ H', S F L H' → Q (Shown d t) H') : spDisplay K [.ref x, .int t] H Q E := ⟨F, L, x, d, t, rfl, ok, e, h0, h1, s, k⟩
theorem c_long (s : S F L H) (e : hallP K x d ∈ F) (ok : d.ok) (k0 : 0 < d.gr → ∀ H', S F L H' → Q .non H') (k1 : ∀ w, d.gr = 0 → d.IsLong w → ∀ H', S F L H' → Q (.int w) H') : spLong K [.ref x] H Q E := ⟨F, L, x, d, rfl, ok, e, s, k0, k1⟩
theorem c_long1 (s : S F L H) (e : hallP K x d ∈ F) (ok : d.ok) (hz : 0 < d.gr) (k0 : ∀ H', S F L H' → Q .non H') : spLong K [.ref x] H Q E := ⟨F, L, x, d, rfl, ok, e, s, fun _ => k0, fun m z => by omega⟩
theorem c_long2 {w : Int} (s : S F L H) (e : hallP K x d ∈ F) (ok : d.ok) (hz : d.gr = 0) (hm : d.IsLong w) (k1 : ∀ H', S F L H' → Q (.int w) H') : spLong K [.ref x] H Q E := ⟨F, L, x, d, rfl, ok, e, s, fun z => by omega, fun m' _ h => by rw [HD.long_uniq h hm]; exact k1⟩
theorem x_neB (q : Q (.bl (!decide (u = w))) H) : rNeA K (.bl u) (.bl w) H Q := .inl ⟨rfl, by rw [dB]; exact q⟩
theorem x_neBt (e : u = w) (q : Q (.bl false) H) : rNeA K (.bl u) (.bl w) H Q := .inl ⟨rfl, by rw [dB, decide_eq_true e]; exact q⟩
theorem Eq2.shownP {m : Nat} (hc : 0 < d.C (t + 1).toNat) : Eq2 K H m (Shown d t) (.int ((d.C (t + 1).toNat - 1) % d.m)) := by
  rw [show Shown d t = .int ((d.C (t + 1).toNat - 1) % d.m) from if_pos hc]
  exact .int rfl
theorem Eq2.shownN {m : Nat} (hc : ¬ 0 < d.C (t + 1).toNat) : Eq2 K H m (Shown d t) .non := by
  rw [show Shown d t = .non from if_neg hc]
  exact .non
theorem dec_eq {p q : Prop} [Decidable p] [Decidable q] (h : p ↔ q) : decide p = decide q := by
  by_cases z : p
  · rw [decide_eq_true z, decide_eq_true (h.mp z)]
  · rw [decide_eq_false z, decide_eq_false (fun y => z (h.mpr y))]
end
/-! ticks at which a count is over n -/
def fl (g : Nat → Int) (n : Int) : Nat → List Int
  | 0 => []
  | m + 1 => if n < g (m + 1) then fl g n m ++ [(m : Int)] else fl g n m
theorem fl_yes {g : Nat → Int} {n : Int} {m : Nat} (h : n < g (m + 1)) : fl g n (m + 1) = fl g n m ++ [(m : Int)] := if_pos h
theorem fl_no {g : Nat → Int} {n : Int} {m : Nat} (h : ¬ n < g (m + 1)) : fl g n (m + 1) = fl g n m := if_neg h
theorem fl_len {g : Nat → Int} {n : Int} {m : Nat} : (fl g n m).length ≤ m := by
  induction m with
  | zero => exact Nat.le_refl _
  | succ m ih =>
    unfold fl
    split
    · rw [List.length_append, List.length_singleton]; omega
    · omega
theorem fl_nil {g : Nat → Int} {n : Int} {m : Nat} (h : fl g n m = []) : ∀ t : Nat, t < m → g (t + 1) ≤ n := by
  induction m with
  | zero => intro t ht; omega
  | succ m ih =>
    intro t ht
    by_cases c : n < g (m + 1)
    · rw [fl_yes c] at h
      exact absurd h (by simp)
    · rw [fl_no c] at h
      rcases Nat.lt_or_ge t m with z | z
      · exact ih h t z
      · rw [show t = m by omega]; omega
/-- the first of them -/
theorem fl_head {g : Nat → Int} {n : Int} {m : Nat} (h : fl g n m ≠ []) : ∃ t : Nat, t < m ∧ (fl g n m).getD 0 0 = (t : Int) ∧ n < g (t + 1) ∧ ∀ s : Nat, s < t → g (s + 1) ≤ n := by
  induction m with
  | zero => exact absurd rfl h
  | succ m ih =>
    by_cases e : fl g n m = []
    · by_cases c : n < g (m + 1)
      · refine ⟨m, Nat.lt_succ_self m, ?_, c, fun s hs => fl_nil e s hs⟩
        rw [fl_yes c, e]; rfl
      · rw [fl_no c] at h
        exact absurd e h
    · obtain ⟨t, a, b, c, d⟩ := ih e
      refine ⟨t, by omega, ?_, c, d⟩
      rw [← b]
      by_cases z : n < g (m + 1)
      · rw [fl_yes z]
        cases q : fl g n m with
        | nil => exact absurd q e
        | cons x r => rfl
      · rw [fl_no z]
theorem fl_pos {g : Nat → Int} {n : Int} {m : Nat} (h : fl g n m ≠ []) : (0 : Int) < (fl g n m).length := by
  have := List.length_pos_iff.mpr h
  omega
theorem fl_T {d : HD} {n : Int} {m : Nat} (n0 : 0 ≤ n) (h : fl d.T n m ≠ []) : ∃ t : Nat, t < m ∧ (fl d.T n m).getD 0 0 = (t : Int) ∧ d.T t ≤ n ∧ n < d.T (t + 1) := by
  obtain ⟨t, a, b, c, e⟩ := fl_head h
  refine ⟨t, a, b, ?_, c⟩
  cases t with
  | zero => exact n0
  | succ t => exact e t (Nat.lt_succ_self t)
theorem fl_C {d : HD} {n : Int} {m : Nat} (n0 : 0 ≤ n) (h : fl d.C n m ≠ []) : ∃ t : Nat, t < m ∧ (fl d.C n m).getD 0 0 = (t : Int) ∧ d.C t ≤ n ∧ n < d.C (t + 1) := by
  obtain ⟨t, a, b, c, e⟩ := fl_head h
  refine ⟨t, a, b, ?_, c⟩
  cases t with
  | zero => exact n0
  | succ t => exact e t (Nat.lt_succ_self t)
end TW
namespace TW
open PySem PySem.Spec PyProof.Rows L2
/-! ### open tickets: what the defs promise -/
def ClearAt (d : HD) (k : Int) : Prop := d.gr = 0 ∧ ∃ m, HD.IsMost { d with lt := k } m ∧ m ≤ d.m
/-- the last k below n of which C holds -/
def Last (C : Int → Prop) (n : Nat) (v : V) : Prop := (v = .non ∧ ∀ j : Nat, j < n → ¬ C j) ∨ ∃ k : Nat, k < n ∧ v = .int k ∧ C k ∧ ∀ j : Nat, j < n → k < j → ¬ C j
theorem Last.zero {C : Int → Prop} : Last C 0 .non := .inl ⟨rfl, fun _ h => absurd h (Nat.not_lt_zero _)⟩
theorem Last.yes {C : Int → Prop} {n : Nat} (c : C n) : Last C (n + 1) (.int n) := .inr ⟨n, Nat.lt_succ_self n, rfl, c, fun j h1 h2 => by omega⟩
theorem Last.no {C : Int → Prop} {n : Nat} {v : V} (h : Last C n v) (c : ¬ C n) : Last C (n + 1) v := by
  have key : ∀ j : Nat, j < n + 1 → j < n ∨ j = n := fun j h => by omega
  rcases h with ⟨e, h⟩ | ⟨k, hk, e, ck, h⟩
  · refine .inl ⟨e, fun j hj => ?_⟩
    rcases key j hj with h1 | rfl
    · exact h j h1
    · exact c
  · refine .inr ⟨k, by omega, e, ck, fun j hj hkj => ?_⟩
    rcases key j hj with h1 | rfl
    · exact h j h1 hkj
    · exact c
theorem Last.uniq {C : Int → Prop} {n : Nat} {v w : V} (h1 : Last C n v) (h2 : Last C n w) : v = w := by
  rcases h1 with ⟨e, h⟩ | ⟨k, hk, e, ck, h⟩
  · rcases h2 with ⟨e', _⟩ | ⟨k', hk', e', ck', _⟩
    · rw [e, e']
    · exact absurd ck' (h k' hk')
  · rcases h2 with ⟨e', h'⟩ | ⟨k', hk', e', ck', h'⟩
    · exact absurd ck (h' k hk)
    · rcases Nat.lt_trichotomy k k' with z | z | z
      · exact absurd ck' (h k' hk' z)
      · rw [e, e', z]
      · exact absurd ck (h' k hk z)
def spRange (K : PySem.W.Frag) : Sp := fun vs H Q _ => ∃ (F : List MP) (L : List (Addr × HO)) (x : Addr) (d : HD) (t : Int), vs = [.ref x, .int t] ∧ d.ok ∧ hallP K x d ∈ F ∧ 0 ≤ t ∧ S F L H ∧ ∀ p H', S (tuF K p [.int (d.C (t - d.lt).toNat), .int (d.T (t + 1).toNat)] :: F) L H' → Q (.ref p) H'
def spOpen (K : PySem.W.Frag) : Sp := fun vs H Q _ => ∃ (F : List MP) (L : List (Addr × HO)) (x : Addr) (d : HD) (t : Int), vs = [.ref x, .int t] ∧ d.ok ∧ hallP K x d ∈ F ∧ 0 ≤ t ∧ t ≤ 1000000000000000000 ∧ S F L H ∧ ∀ p H', S (tuF K p [.int (d.C (t - d.lt).toNat), .int (d.O t.toNat)] :: F) L H' → Q (.ref p) H'
def spCount (K : PySem.W.Frag) : Sp := fun vs H Q _ => ∃ (F : List MP) (L : List (Addr × HO)) (x : Addr) (d : HD) (t : Int), vs = [.ref x, .int t] ∧ d.ok ∧ hallP K x d ∈ F ∧ 0 ≤ t ∧ S F L H ∧ ∀ H', S F L H' → Q (.int (d.O t.toNat)) H'
def MostQ (d : HD) (g : Int → V) (F : List MP) (L : List (Addr × HO)) (Q : VK) : Prop := (0 < d.gr → ∀ H', S F L H' → Q .non H') ∧ ∀ m, d.gr = 0 → d.IsMost m → ∀ H', S F L H' → Q (g m) H'
def spMost (K : PySem.W.Frag) (g : HD → Int → V) : Sp := fun vs H Q _ => ∃ (F : List MP) (L : List (Addr × HO)) (x : Addr) (d : HD), vs = [.ref x] ∧ d.ok ∧ hallP K x d ∈ F ∧ S F L H ∧ MostQ d (g d) F L Q
def gMost (_ : HD) (m : Int) : V := .int m
def gColors (d : HD) (m : Int) : V := .int (max 1 (0 - (0 - m) / d.m))
def gModulus (_ : HD) (m : Int) : V := .int (max 2 m)
def spClear (K : PySem.W.Frag) : Sp := fun vs H Q _ => ∃ (F : List MP) (L : List (Addr × HO)) (x : Addr) (d : HD), vs = [.ref x] ∧ d.ok ∧ hallP K x d ∈ F ∧ S F L H ∧ ∀ (b : Bool), (b = true ↔ d.gr = 0 ∧ ∃ m, d.IsMost m ∧ m ≤ d.m) → ∀ H', S F L H' → Q (.bl b) H'
def spLate (K : PySem.W.Frag) : Sp := fun vs H Q _ => ∃ (F : List MP) (L : List (Addr × HO)) (x : Addr) (d : HD), vs = [.ref x] ∧ d.ok ∧ hallP K x d ∈ F ∧ S F L H ∧ ∀ v, Last (ClearAt d) 100 v → ∀ H', S F L H' → Q v H'
/-! the laws' own -/
def Op (d : HD) (t : Nat) : List V := [.int (d.C ((t : Int) - d.lt).toNat), .int (d.T (t + 1))]
def opsP (K : PySem.W.Frag) (p : Addr) (d : HD) (n : Nat) : MP := ⟨fun E => ∃ qs : List Addr, qs.length = n ∧ SqL K E p (qs.map V.ref) ∧ ∀ i q, qs[i]? = some q → SqT K E q (Op d i), fun _ _ e ⟨qs, h1, h2, h3⟩ => ⟨qs, h1, sqL_mono e h2, fun i q z => sqT_mono e (h3 i q z)⟩⟩
def opT (K : PySem.W.Frag) (qs : List Addr) (d : HD) : MP := ⟨fun E => ∀ (i : Nat) q, qs[i]? = some q → SqT K E q (Op d i), fun _ _ e h i q z => sqT_mono e (h i q z)⟩
theorem opT_snoc {K : PySem.W.Frag} {qs : List Addr} {d : HD} {p : Addr} {E : Hp} (h : (opT K qs d).1 E) (hp : SqT K E p (Op d qs.length)) : (opT K (qs ++ [p]) d).1 E := fun i q z => by
  rcases Nat.lt_trichotomy i qs.length with c | c | c
  · rw [List.getElem?_append_left c] at z
    exact h i q z
  · subst c
    rw [List.getElem?_append_right (Nat.le_refl _), Nat.sub_self] at z
    cases z
    exact hp
  · rw [List.getElem?_eq_none (by rw [List.length_append, List.length_singleton]; omega)] at z
    cases z
theorem S.ops {K : PySem.W.Frag} {F : List MP} {L : List (Addr × HO)} {H : Hp} {p : Addr} {d : HD} {n : Nat} (s : S F L H) (m : opsP K p d n ∈ F) : ∃ qs : List Addr, qs.length = n ∧ S (liF K p (qs.map V.ref) :: opT K qs d :: F) L H := by
  obtain ⟨E, h1, h2, h3⟩ := s.ex
  obtain ⟨qs, a1, a2, a3⟩ := h2 _ m
  refine ⟨qs, a1, ⟨E, h1, fun f hf => ?_, h3⟩, s.cell, s.nd⟩
  rcases List.mem_cons.mp hf with rfl | hf
  · exact a2
  rcases List.mem_cons.mp hf with rfl | hf
  · exact a3
  exact h2 f hf
def spOpens (K : PySem.W.Frag) : Sp := fun vs H Q _ => ∃ (F : List MP) (L : List (Addr × HO)) (p : Addr) (d : HD) (n : Int), vs = [.ref p, .int n] ∧ 0 ≤ n ∧ n ≤ 900000 ∧ d.okw ∧ partsP K p d ∈ F ∧ S F L H ∧ ∀ q H', S (opsP K q d n.toNat :: F) L H' → Q (.ref q) H'
def MostV (d : HD) (v : V) : Prop := (v = .non ∨ ∃ m, v = .int m) ∧ (d.ok → (0 < d.gr ∧ v = .non) ∨ (d.gr = 0 ∧ ∃ m, d.IsMost m ∧ v = .int m))
def spMostL (K : PySem.W.Frag) : Sp := fun vs H Q _ => ∃ (F : List MP) (L : List (Addr × HO)) (p : Addr) (d : HD), vs = [.ref p] ∧ d.okw ∧ partsP K p d ∈ F ∧ S F L H ∧ ∀ v, MostV d v → ∀ H', S F L H' → Q v H'
section
variable {K : PySem.W.Frag} {H : Hp} {Q : VK} {E : XK} {F : List MP} {L L' : List (Addr × HO)} {x p : Addr} {d : HD} {t n b : Int} {g : HD → Int → V} {f : Nat → Int} {k : Nat}
theorem c_range (s : S F L H) (e : hallP K x d ∈ F) (ok : d.ok) (h0 : 0 ≤ t) (h : ∀ p H', S (tuF K p [.int (d.C (t - d.lt).toNat), .int (d.T (t + 1).toNat)] :: F) L H' → Q (.ref p) H') : spRange K [.ref x, .int t] H Q E := ⟨F, L, x, d, t, rfl, ok, e, h0, s, h⟩
theorem c_open (s : S F L H) (e : hallP K x d ∈ F) (ok : d.ok) (h0 : 0 ≤ t) (h1 : t ≤ 1000000000000000000) (h : ∀ p H', S (tuF K p [.int (d.C (t - d.lt).toNat), .int (d.O t.toNat)] :: F) L H' → Q (.ref p) H') : spOpen K [.ref x, .int t] H Q E := ⟨F, L, x, d, t, rfl, ok, e, h0, h1, s, h⟩
theorem c_count (s : S F L H) (e : hallP K x d ∈ F) (ok : d.ok) (h0 : 0 ≤ t) (h : ∀ H', S F L H' → Q (.int (d.O t.toNat)) H') : spCount K [.ref x, .int t] H Q E := ⟨F, L, x, d, t, rfl, ok, e, h0, s, h⟩
theorem c_most (s : S F L H) (e : hallP K x d ∈ F) (ok : d.ok) (k0 : 0 < d.gr → ∀ H', S F L H' → Q .non H') (k1 : ∀ m, d.gr = 0 → d.IsMost m → ∀ H', S F L H' → Q (g d m) H') : spMost K g [.ref x] H Q E := ⟨F, L, x, d, rfl, ok, e, s, k0, k1⟩
theorem c_mostL (s : S F L H) (e : partsP K p d ∈ F) (ok : d.ok) (k0 : 0 < d.gr → ∀ H', S F L H' → Q .non H') (k1 : ∀ m, d.gr = 0 → d.IsMost m → ∀ H', S F L H' → Q (.int m) H') : spMostL K [.ref p] H Q E := ⟨F, L, p, d, rfl, ok.w, e, s, fun v hv H' hS => by
  rcases hv.2 ok with ⟨z, rfl⟩ | ⟨z, m, hm, rfl⟩
  · exact k0 z H' hS
  · exact k1 m z hm H' hS⟩
theorem c_mostW (s : S F L H) (e : partsP K p d ∈ F) (ok : d.okw) (k : ∀ v, MostV d v → ∀ H', S F L H' → Q v H') : spMostL K [.ref p] H Q E := ⟨F, L, p, d, rfl, ok, e, s, k⟩
theorem c_most1 (s : S F L H) (e : hallP K x d ∈ F) (ok : d.ok) (hz : 0 < d.gr) (k0 : ∀ H', S F L H' → Q .non H') : spMost K g [.ref x] H Q E := ⟨F, L, x, d, rfl, ok, e, s, fun _ => k0, fun m z => by omega⟩
theorem c_most2 {m : Int} (s : S F L H) (e : hallP K x d ∈ F) (ok : d.ok) (hz : d.gr = 0) (hm : d.IsMost m) (k1 : ∀ H', S F L H' → Q (.int m) H') : spMost K gMost [.ref x] H Q E := ⟨F, L, x, d, rfl, ok, e, s, fun z => by omega, fun m' _ h => by rw [HD.most_uniq h hm]; exact k1⟩
theorem c_most3 {m : Int} (s : S F L H) (e : hallP K x d ∈ F) (ok : d.ok) (hz : d.gr = 0) (hm : d.IsMost m) (k1 : ∀ H', S F L H' → Q (.int (max 1 (0 - (0 - m) / d.m))) H') : spMost K gColors [.ref x] H Q E := ⟨F, L, x, d, rfl, ok, e, s, fun z => by omega, fun m' _ h => by rw [HD.most_uniq h hm]; exact k1⟩
theorem c_most4 {m : Int} (s : S F L H) (e : hallP K x d ∈ F) (ok : d.ok) (hz : d.gr = 0) (hm : d.IsMost m) (k1 : ∀ H', S F L H' → Q (.int (max 2 m)) H') : spMost K gModulus [.ref x] H Q E := ⟨F, L, x, d, rfl, ok, e, s, fun z => by omega, fun m' _ h => by rw [HD.most_uniq h hm]; exact k1⟩
theorem c_mostL1 (s : S F L H) (e : partsP K p d ∈ F) (ok : d.ok) (hz : 0 < d.gr) (k0 : ∀ H', S F L H' → Q .non H') : spMostL K [.ref p] H Q E := c_mostL s e ok (fun _ => k0) fun m z => by omega
theorem c_mostL2 {m : Int} (s : S F L H) (e : partsP K p d ∈ F) (ok : d.ok) (hz : d.gr = 0) (hm : d.IsMost m) (k1 : ∀ H', S F L H' → Q (.int m) H') : spMostL K [.ref p] H Q E := c_mostL s e ok (fun z => by omega) fun m' _ h => by rw [HD.most_uniq h hm]; exact k1
theorem c_clear (s : S F L H) (e : hallP K x d ∈ F) (ok : d.ok) (h : ∀ (b : Bool), (b = true ↔ d.gr = 0 ∧ ∃ m, d.IsMost m ∧ m ≤ d.m) → ∀ H', S F L H' → Q (.bl b) H') : spClear K [.ref x] H Q E := ⟨F, L, x, d, rfl, ok, e, s, h⟩
theorem c_late (s : S F L H) (e : hallP K x d ∈ F) (ok : d.ok) (h : ∀ v, Last (ClearAt d) 100 v → ∀ H', S F L H' → Q v H') : spLate K [.ref x] H Q E := ⟨F, L, x, d, rfl, ok, e, s, h⟩
theorem c_opens (s : S F L H) (e : partsP K p d ∈ F) (ok : d.okw) (h0 : 0 ≤ n) (h1 : n ≤ 900000) (h : ∀ q H', S (opsP K q d n.toNat :: F) L H' → Q (.ref q) H') : spOpens K [.ref p, .int n] H Q E := ⟨F, L, p, d, n, rfl, h0, h1, ok, e, s, h⟩
theorem x_maxR (h : SqL K H p ((List.range k).map fun t => V.int (f t))) (h0 : 0 < k) (q : ∀ m, (∃ t : Nat, t < k ∧ m = f t) → (∀ t : Nat, t < k → f t ≤ m) → Q (.int m) H) : rMaxA K [.ref p] H Q := by
  have e : (List.range k).map (fun t => V.int (f t)) = ((List.range k).map f).map V.int := by rw [List.map_map]; rfl
  rw [e] at h
  refine x_maxL h (by rw [List.length_map, List.length_range]; exact h0) fun m hm ha => q m ?_ fun t ht => ha _ (List.mem_map.mpr ⟨t, List.mem_range.mpr ht, rfl⟩)
  obtain ⟨t, ht, e⟩ := List.mem_map.mp hm
  exact ⟨t, List.mem_range.mp ht, e.symm⟩
end
end TW
namespace TW
open PySem PySem.Spec PyProof.Rows L2
/-! ### slices, joined tuples, range by steps -/
def rSlAny (K : PySem.W.Frag) : V → Option Int → Option Int → Hp → VK → Prop := fun x lo hi H Q => rSlA K x lo hi H Q ∨ rSlL K x lo hi H Q
section
variable {X : Cx} {K : PySem.W.Frag} {e : Expr} {lo hi : Option Expr} {p2 pos : Pos} {te : TE} {tl th : TO}
theorem d_sl (K) (he : PE X e te) (hl : PO X lo tl) (hu : PO X hi th) (hK : X.K = K := by rfl) : PE X (.Subscript e (.Slice lo hi none p2) pos) (tSl (rSlAny K) te tl th) := by
  subst hK; exact pe_slice (sl_tupA.or sl_list) he hl hu
end
def kPart (x : V) (Q : Option Int → Hp → Prop) (H : Hp) : Prop := ∃ i, x = .int i ∧ Q (some i) H
def kRng3 (vs : List V) (R : It → Hp → Prop) (H : Hp) : Prop := ∃ (i j c : Int) (n : Nat), vs = [.int i, .int j, .int c] ∧ RgC i j c n ∧ R (Itc i c n) H
section
variable {K : PySem.W.Frag} {H : Hp} {Q : VK} {F : List MP} {L L' : List (Addr × HO)} {p q : Addr} {xs ys : List V} {lo hi : Option Int} {σ : L2.St} {te : TE} {tl th : TO} {t : TA} {i j c : Int} {n : Nat} {g : TG} {ts : TS} {D : Ends}
theorem r_sl {r : V → Option Int → Option Int → Hp → VK → Prop} (h : te σ H fun x H1 => tl σ H1 fun l H2 => th σ H2 fun u H3 => r x l u H3 Q) : L2.tSl r te tl th σ H Q := h
theorem r_npart {Q : Option Int → Hp → Prop} (q : Q none H) : tNoPart σ H Q := q
theorem r_part {Q : Option Int → Hp → Prop} (h : te σ H fun x H1 => kPart x Q H1) : tPart te σ H Q := h
theorem x_part {Q : Option Int → Hp → Prop} (q : Q (some i) H) : kPart (.int i) Q H := ⟨i, rfl, q⟩
theorem cut_whole (h : HT.sIx xs.length 0 lo = 0 ∧ HT.sIx xs.length xs.length hi = xs.length) : cutV xs lo hi = xs := by
  unfold cutV
  rw [h.1, h.2, List.drop_zero, Nat.sub_zero, List.take_length]
theorem x_slT (s : S F L H) (h : SqT K H p xs) (e : cutV xs lo hi = ys) (ne : ys.length < xs.length) (q : ∀ r H1, S (cel r (.tup ys) :: F) L H1 → Q (.ref r) H1) : rSlAny K (.ref p) lo hi H Q :=
  .inl ⟨p, xs, rfl, h, fun z => absurd ne (by rw [← e, cut_whole z]; exact Nat.lt_irrefl _), fun _ r hr => by rw [e]; exact q r _ (s.newF hr)⟩
theorem x_slL (s : S F L H) (h : SqL K H p xs) (e : cutV xs lo hi = ys) (q : ∀ r H1, S F ((r, .lst ys) :: L) H1 → Q (.ref r) H1) : rSlAny K (.ref p) lo hi H Q :=
  .inr ⟨p, xs, rfl, h, fun r hr => by rw [e]; exact q r _ (s.new hr)⟩
theorem x_catT (s : S F L H) (e1 : Ent F (tuF K p xs)) (e2 : Ent F (tuF K q ys)) (hl : xs.length + ys.length ≤ sizeLine) (k : ∀ r H1, S (tuF K r (xs ++ ys) :: F) L H1 → Q (.ref r) H1) : rAddA K (.ref p) (.ref q) H Q := by
  refine .inr (.inr (.inr ⟨p, q, xs, ys, rfl, rfl, s.ent e1, s.ent e2, hl, fun z => ?_, fun _ z => ?_, fun _ _ r hr => ?_⟩))
  · subst z
    exact k q _ (s.put_ _ e2)
  · subst z
    exact k p _ (s.put_ _ (by rw [List.append_nil]; exact e1))
  · exact k r _ (((s.newF hr).put_ (tuF K r (xs ++ ys)) (Ent.tup List.mem_cons_self)).sub ((List.sublist_cons_self _ _).cons_cons _) (List.Sublist.refl _))
theorem r_rng3 {R : It → Hp → Prop} (h : t σ H fun vs H1 => kRng3 vs R H1) : iRng3 t σ H R := h
theorem x_rng3 {R : It → Hp → Prop} (h : RgC i j c n) (q : R (Itc i c n) H) : kRng3 [.int i, .int j, .int c] R H := ⟨i, j, c, n, rfl, h, q⟩
theorem k_rangeC (I : Nat → L2.St → Hp → Prop) (h0 : I 0 σ H) (hs : ∀ k σ H, k < n → I k σ H → g (.int (i + (k : Nat) * c)) σ H fun σ2 H2 => ts { nx := I (k + 1), rt := D.rt, ct := I (k + 1), bk := D.nx } σ2 H2) (hd : ∀ σ H, I n σ H → D.nx σ H) : kFor (Itc i c n) g ts D σ H :=
  for_rangeC I h0 hs hd
end
end TW
namespace TW
open PySem PySem.Spec PyProof.Rows L2
/-! ### joins; loops over written lists, item by item -/
section
variable {K : PySem.W.Frag} {σ σ' : Sl} {H : Hp} {Q : VK} {v x y : V} {i : Int} {p a : Addr} {xs ys : List V} {F : List MP} {L L' : List (Addr × HO)} {tt : TT} {te : TE} {D : Ends} {ts : TS} {g : TG}
/-- behind a statement: one way for all -/
theorem cut_nx {nx : Sl → Hp → Prop} {rt : VK} {bk ct : Sl → Hp → Prop} (J : Sl → Hp → Prop) (h : ∀ nx' : Sl → Hp → Prop, (∀ σ H, J σ H → nx' σ H) → ts ⟨nx', rt, bk, ct⟩ σ H) (k : ∀ σ H, J σ H → nx σ H) : ts ⟨nx, rt, bk, ct⟩ σ H := h nx k
def kSt (St R : Hp → Prop) (H : Hp) : Prop := St H ∧ R H
theorem x_kst {St R : Hp → Prop} (h : St H) (q : R H) : kSt St R H := ⟨h, q⟩
def RunL (St : Hp → Prop) (f : V → (Hp → Prop) → Hp → Prop) (R : Hp → Prop) : List V → Hp → Prop
  | [], H => R H
  | x :: ys, H => f x (kSt St (RunL St f R ys)) H
theorem r_runN {St : Hp → Prop} {f : V → (Hp → Prop) → Hp → Prop} {R : Hp → Prop} (q : R H) : RunL St f R [] H := q
theorem r_runC {St : Hp → Prop} {f : V → (Hp → Prop) → Hp → Prop} {R : Hp → Prop} (q : f x (kSt St (RunL St f R ys)) H) : RunL St f R (x :: ys) H := q
theorem k_lcLu {vs : List Nat} {σw : Sl} (hw : Wip vs σ σw) (s : S F L H) (hq : SqL K H a xs) (h : ∀ l H1, S F ((l, .lst []) :: L) H1 → RunL (fun H => SqL K H a xs) (fun x N H => g x σw H fun σ2 H2 => kWip vs σw σ2 (tt σ2 H2 fun b H3 => if b = true then te σ2 H3 (kEnd l N) else N H3)) (fun H => Q (.ref l) H) xs H1) : kLc (Itl K a) g tt te vs σ H Q := fun l hl => by
  have e := hw.eq
  subst e
  have hl0 : SqL K (upd H l (.lst [])) a xs := (same_new hl).seq hq
  refine lc_list (fun i H1 => SqL K H1 a xs ∧ RunL (fun H => SqL K H a xs) (fun x N H => g x (wipe σ vs) H fun σ2 H2 => kWip vs (wipe σ vs) σ2 (tt σ2 H2 fun b H3 => if b = true then te σ2 H3 (kEnd l N) else N H3)) (fun H => Q (.ref l) H) (xs.drop i) H1) ⟨hl0, h l _ (s.new hl)⟩ (fun i H1 _ q => q.1) (fun i x H1 hi q => ?_) (fun H1 q => ?_)
  · have e := q.2
    obtain ⟨hlt, hx⟩ := List.getElem?_eq_some_iff.mp hi
    rw [List.drop_eq_getElem_cons hlt, hx] at e
    exact e
  · have e := q.2
    rw [List.drop_length] at e
    exact e
theorem k_lcTu {vs : List Nat} {σw : Sl} (hw : Wip vs σ σw) (s : S F L H) (hq : SqT K H a xs) (h : ∀ l H1, S F ((l, .lst []) :: L) H1 → RunL (fun H => SqT K H a xs) (fun x N H => g x σw H fun σ2 H2 => kWip vs σw σ2 (tt σ2 H2 fun b H3 => if b = true then te σ2 H3 (kEnd l N) else N H3)) (fun H => Q (.ref l) H) xs H1) : kLc (Itt K a) g tt te vs σ H Q := fun l hl => by
  have e := hw.eq
  subst e
  have hl0 : SqT K (upd H l (.lst [])) a xs := sqT_mono (same_new hl) hq
  refine lc_tup (fun i H1 => SqT K H1 a xs ∧ RunL (fun H => SqT K H a xs) (fun x N H => g x (wipe σ vs) H fun σ2 H2 => kWip vs (wipe σ vs) σ2 (tt σ2 H2 fun b H3 => if b = true then te σ2 H3 (kEnd l N) else N H3)) (fun H => Q (.ref l) H) (xs.drop i) H1) ⟨hl0, h l _ (s.new hl)⟩ (fun i H1 _ q => q.1) (fun i x H1 hi q => ?_) (fun H1 q => ?_)
  · have e := q.2
    obtain ⟨hlt, hx⟩ := List.getElem?_eq_some_iff.mp hi
    rw [List.drop_eq_getElem_cons hlt, hx] at e
    exact e
  · have e := q.2
    rw [List.drop_length] at e
    exact e
/-- the same for a statement -/
def RunF (St : Hp → Prop) (g : TG) (ts : TS) (D : Ends) : List V → Sl → Hp → Prop
  | [], σ, H => D.nx σ H
  | x :: ys, σ, H => g x σ H fun σ2 H2 => ts { nx := fun σ H => kSt St (RunF St g ts D ys σ) H, rt := D.rt, ct := fun σ H => kSt St (RunF St g ts D ys σ) H, bk := D.nx } σ2 H2
theorem r_rufN {St : Hp → Prop} (q : D.nx σ H) : RunF St g ts D [] σ H := q
theorem r_rufC {St : Hp → Prop} (q : g x σ H fun σ2 H2 => ts { nx := fun σ H => kSt St (RunF St g ts D ys σ) H, rt := D.rt, ct := fun σ H => kSt St (RunF St g ts D ys σ) H, bk := D.nx } σ2 H2) : RunF St g ts D (x :: ys) σ H := q
theorem k_forLu (hq : SqL K H a xs) (h : RunF (fun H => SqL K H a xs) g ts D xs σ H) : kFor (Itl K a) g ts D σ H := by
  refine k_list xs (fun i σ H => SqL K H a xs ∧ RunF (fun H => SqL K H a xs) g ts D (xs.drop i) σ H) ⟨hq, h⟩ (fun i σ H _ q => q.1) (fun i x σ H hi q => ?_) (fun σ H q => ?_)
  · have e := q.2
    obtain ⟨hlt, hx⟩ := List.getElem?_eq_some_iff.mp hi
    rw [List.drop_eq_getElem_cons hlt, hx] at e
    exact e
  · have e := q.2
    rw [List.drop_length] at e
    exact e
theorem k_forTu (hq : SqT K H a xs) (h : RunF (fun H => SqT K H a xs) g ts D xs σ H) : kFor (Itt K a) g ts D σ H := by
  refine k_tup xs (fun i σ H => SqT K H a xs ∧ RunF (fun H => SqT K H a xs) g ts D (xs.drop i) σ H) ⟨hq, h⟩ (fun i σ H _ q => q.1) (fun i x σ H hi q => ?_) (fun σ H q => ?_)
  · have e := q.2
    obtain ⟨hlt, hx⟩ := List.getElem?_eq_some_iff.mp hi
    rw [List.drop_eq_getElem_cons hlt, hx] at e
    exact e
  · have e := q.2
    rw [List.drop_length] at e
    exact e
theorem x_pow1017 (q : Q (.int 100000000000000000) H) : rPowA (.int 10) (.int 17) H Q := x_pow ⟨by decide, by decide, by decide⟩ q
theorem x_neB1 {c : Prop} [Decidable c] (h : c) (q : Q (.bl false) H) : rNeA K (.bl true) (.bl (decide c)) H Q := x_neBt (decide_eq_true h).symm q
theorem x_neB2 {c : Prop} [Decidable c] (h : ¬ c) (q : Q (.bl false) H) : rNeA K (.bl false) (.bl (decide c)) H Q := x_neBt (decide_eq_false h).symm q
theorem x_neB3 {c : Prop} [Decidable c] (h : c) (q : Q (.bl false) H) : rNeA K (.bl (decide c)) (.bl true) H Q := x_neBt (decide_eq_true h) q
theorem x_neB4 {c : Prop} [Decidable c] (h : ¬ c) (q : Q (.bl false) H) : rNeA K (.bl (decide c)) (.bl false) H Q := x_neBt (decide_eq_false h) q
theorem x_powG {e : Int} (he : e = 1000000000000000000) (q : Q (.int e) H) : rPowA (.int 10) (.int 18) H Q := by subst he; exact x_pow1018 q
theorem x_powG7 {e : Int} (he : e = 100000000000000000) (q : Q (.int e) H) : rPowA (.int 10) (.int 17) H Q := by subst he; exact x_pow1017 q
theorem x_repL {n : Nat} (s : S F L H) (h : (p, .lst xs) ∈ L) (hk : i = (n : Int)) (h2 : n ≤ 1000) (hl : xs.length * n ≤ sizeLine) (k : ∀ l H1, S F ((l, .lst (List.replicate n xs).flatten) :: L) H1 → Q (.ref l) H1) : rMulA K (.ref p) (.int i) H Q := by
  subst hk
  refine .inr (.inl ⟨p, n, xs, rfl, rfl, s.at_ h, by omega, by omega, by rw [Int.toNat_natCast]; exact hl, fun l hl => ?_⟩)
  rw [Int.toNat_natCast]
  exact k l _ (s.new hl)
end
namespace HD
variable {d : HD}
theorem B_mono1 (h : d.ok) (t : Nat) : d.B t ≤ d.B (t + 1) := by
  show d.B t ≤ d.B t + d.c t
  have := (h.cc0 t).1; omega
theorem B_mono (h : d.ok) {s t : Nat} (e : s ≤ t) : d.B s ≤ d.B t := by
  induction t with
  | zero => have : s = 0 := by omega
            subst this; exact Int.le_refl _
  | succ t ih =>
    by_cases q : s = t + 1
    · subst q; exact Int.le_refl _
    · exact Int.le_trans (ih (by omega)) (B_mono1 h t)
theorem C_le_B (t : Nat) : d.C t ≤ d.B t := by
  induction t with
  | zero => exact Int.le_refl _
  | succ t ih =>
    show min (d.T (t + 1)) (d.C t + d.c t) ≤ d.B t + d.c t
    omega
theorem C_zero (h : d.ok) (hs : d.cl.sum = 0) (t : Nat) : d.C t = 0 := by
  have e := B_clk (d := d) (t + 1)
  rw [hs, Int.mul_zero] at e
  have h1 := B_mono h (show t ≤ (t + 1) * d.cl.length by have := Nat.le_mul_of_pos_right (t + 1) h.c0; omega)
  have h2 := C_le_B (d := d) t
  have h3 := C_nonneg h t
  omega
theorem T_zero (h : d.ok) (hs : d.T d.per = 0) (t : Nat) : d.T t = 0 := by
  have e := T_mul (d := d) 0 (t + 1)
  rw [hs, Int.mul_zero] at e
  have z : d.T 0 = 0 := rfl
  have h1 := T_mono h (show t ≤ 0 + (t + 1) * d.per by have := Nat.le_mul_of_pos_right (t + 1) (per_pos h); omega)
  have h3 := T_nonneg h t
  omega
theorem B_per0 (h : d.ok) : d.B d.per = 0 ↔ d.cl.sum = 0 := by
  have e := B_sum (d := d)
  have p : 0 < d.per / d.cl.length := Nat.div_pos (Nat.le_of_dvd (per_pos h) dvd2) h.c0
  rw [e]
  constructor
  · intro z
    rcases Int.mul_eq_zero.mp z with z | z
    · exact z
    · omega
  · intro z
    rw [z, Int.zero_mul]
/-- no call for ever: no takes, or no calls written -/
theorem gain0 (h : d.ok) (g : d.gain = 0) (ht : 0 < d.T d.per) : d.cl.sum = 0 ∧ 0 < d.gr := by
  rw [gain_min] at g
  have hb : d.B d.per = 0 := by
    have := B_nonneg h d.per
    omega
  exact ⟨(B_per0 h).mp hb, by unfold gr; omega⟩
theorem O_mul (h : d.ok) (t k : Nat) (ht : (d.per : Int) + d.lt ≤ t) : d.O (t + k * d.per) = d.O t + k * d.gr := by
  have l0 := h.l0
  have e1 := T_mul (d := d) (t + 1) k
  have e2 := C_mul h ((t : Int) - d.lt).toNat k (by omega)
  unfold O
  rw [show t + k * d.per + 1 = t + 1 + k * d.per by omega, show (((t + k * d.per : Nat) : Int) - d.lt).toNat = ((t : Int) - d.lt).toNat + k * d.per by omega, e1, e2]
  unfold gain
  rw [Int.mul_sub]
  omega
theorem C_steps (h : d.ok) (t j : Nat) : d.C (t + j) ≤ d.C t + 9 * j := by
  induction j with
  | zero => simp
  | succ j ih =>
    have := C_step h (t + j)
    rw [show t + (j + 1) = t + j + 1 by omega]
    omega
theorem O_low (h : d.ok) (t j : Nat) : d.O t - 9 * j ≤ d.O (t + j) := by
  have l0 := h.l0
  have h1 := T_mono h (show t + 1 ≤ t + j + 1 by omega)
  have h2 := C_steps h ((t : Int) - d.lt).toNat j
  have h3 := C_mono h (show (((t + j : Nat) : Int) - d.lt).toNat ≤ ((t : Int) - d.lt).toNat + j by omega)
  unfold O
  omega
theorem O_up (h : d.ok) (t j : Nat) : d.O (t + j) ≤ d.O t + 9 * j := by
  have l0 := h.l0
  have h1 : d.T (t + 1 + j) ≤ d.T (t + 1) + 9 * j := by
    clear l0
    induction j with
    | zero => simp
    | succ j ih =>
      have := (h.a0 (t + 1 + j)).2
      show d.T (t + 1 + j) + d.a (t + 1 + j) ≤ _
      omega
  have h3 := C_mono h (show ((t : Int) - d.lt).toNat ≤ (((t + j : Nat) : Int) - d.lt).toNat by omega)
  unfold O
  rw [show t + j + 1 = t + 1 + j by omega]
  omega
theorem per_small (h : d.ok) (h1 : d.tk.length ≤ 3) (h2 : d.cl.length ≤ 3) : d.per ≤ 6 := by
  have a := h.t0
  have b := h.c0
  unfold per
  rcases (show d.tk.length = 1 ∨ d.tk.length = 2 ∨ d.tk.length = 3 by omega) with e | e | e <;> rcases (show d.cl.length = 1 ∨ d.cl.length = 2 ∨ d.cl.length = 3 by omega) with f | f | f <;> rw [e, f] <;> decide
theorem O_far (h : d.ok) (g : 0 < d.gr) (p6 : d.per ≤ 6) {t u : Nat} (h1 : (d.per : Int) + d.lt ≤ t) (h2 : t ≤ 1000) (h3 : 10000 ≤ u) : d.O (t + 9 * d.per) < d.O u := by
  have p0 := per_pos h
  have e := Nat.mod_add_div (u - t) d.per
  have j := Nat.mod_lt (u - t) p0
  have kk : 1000 ≤ (u - t) / d.per := by
    have := Nat.div_le_div_left p6 p0 (a := u - t)
    omega
  have e1 := O_mul h t 9 h1
  have e2 := O_mul h (t + (u - t) % d.per) ((u - t) / d.per) (by omega)
  have e3 := O_low h t ((u - t) % d.per)
  rw [show t + (u - t) % d.per + (u - t) / d.per * d.per = u by rw [Nat.mul_comm] at e; omega] at e2
  rw [e1, e2]
  have m := Int.mul_le_mul_of_nonneg_right (show (1000 : Int) ≤ (((u - t) / d.per : Nat) : Int) by omega) (show 0 ≤ d.gr by omega)
  omega
theorem long_zero (h : d.ok) (tz : d.T d.per = 0) {w : Int} (hw : d.IsLong w) : w = 0 := by
  rcases hw.1 with e | ⟨n, n0, c, t, _, _, _, t2, _⟩
  · exact e
  · have := T_zero h tz (t + 1)
    omega
theorem most_zero (h : d.ok) (tz : d.T d.per = 0) {m : Int} (hm : d.IsMost m) : m = 0 := by
  obtain ⟨⟨t, e⟩, _⟩ := hm
  have e1 := T_zero h tz (t + 1)
  have e2 := C_nonneg h ((t : Int) - d.lt).toNat
  have e3 := O_nonneg h t
  unfold O at e e3
  omega
/-- a hall without growth has called in time what was taken -/
theorem C_reach (h : d.ok) (g : d.gr = 0) (k : Nat) : d.T (k * d.per) ≤ d.C (d.per + k * d.per) := by
  have e := C_mul h d.per k (Nat.le_refl _)
  have e1 := T_mul (d := d) 0 k
  have z : d.T 0 = 0 := rfl
  have c0 := C_nonneg h d.per
  rw [Nat.zero_add, z] at e1
  rw [e, e1]
  unfold gain
  rw [g, Int.sub_zero]
  omega
end HD
end TW
namespace TW
open PySem PySem.Spec PyProof.Rows L2
/-! ### list(range(..)) -/
/-- a, a + c, .. (n of them) -/
def ap (a c : Int) (n : Nat) : List Int := (List.range n).map fun i => a + (i : Nat) * c
/-- the ints from a on before b -/
abbrev iv (a b : Int) : List Int := ap a 1 (b - a).toNat
theorem ap_len {a c : Int} {n : Nat} : (ap a c n).length = n := by unfold ap; rw [List.length_map, List.length_range]
theorem ap_get {a c : Int} {n i : Nat} (h : i < n) : (ap a c n)[i]? = some (a + i * c) := by
  unfold ap
  rw [List.getElem?_map, List.getElem?_range h]
  rfl
theorem ap_getD {a c : Int} {n i : Nat} (h : i < n) : (ap a c n).getD i 0 = a + i * c := by
  rw [List.getD_eq_getElem?_getD, ap_get h]
  rfl
theorem mem_ap {a c y : Int} {n : Nat} : y ∈ ap a c n ↔ ∃ i : Nat, i < n ∧ y = a + i * c := by
  unfold ap
  rw [List.mem_map]
  constructor
  · rintro ⟨i, hi, rfl⟩
    exact ⟨i, List.mem_range.mp hi, rfl⟩
  · rintro ⟨i, hi, rfl⟩
    exact ⟨i, List.mem_range.mpr hi, rfl⟩
theorem mem_iv {a b y : Int} : y ∈ iv a b ↔ a ≤ y ∧ y < b := by
  rw [mem_ap]
  constructor
  · rintro ⟨i, hi, rfl⟩
    omega
  · rintro ⟨h1, h2⟩
    exact ⟨(y - a).toNat, by omega, by omega⟩
theorem ap_succ {a c : Int} {n : Nat} : ap a c (n + 1) = ap a c n ++ [a + n * c] := by
  unfold ap
  rw [List.range_succ, List.map_append]
  rfl
theorem rgV_iv {a b : Int} : rgV a b = (iv a b).map V.int := by
  unfold rgV iv ap
  rw [List.map_map]
  refine List.map_congr_left fun i _ => ?_
  show V.int (a + i) = V.int (a + i * 1)
  rw [Int.mul_one]
theorem rsz {a b c : Int} (hc : 0 < c) : Builtin.Range.rangeSize a b c = if a < b then (b - a - 1) / c + 1 else 0 := by
  unfold Builtin.Range.rangeSize
  rw [if_pos hc]
theorem small_up {a b c : Int} (hc : 0 < c) (hc' : c < 1073741824) (ha : -4611686018427387904 ≤ a) (ha' : a < 4611686018427387904) (hb : -4611686018427387904 ≤ b) (hb' : b < 4611686018427387904) : Builtin.Range.small a b c = true := by
  have q : (b - a - 1) / c ≤ b - a - 1 ∨ b - a - 1 < 0 := by
    by_cases z : 0 ≤ b - a - 1
    · exact .inl (Int.ediv_le_self _ z)
    · exact .inr (by omega)
  have q0 : 0 ≤ b - a - 1 → 0 ≤ (b - a - 1) / c := fun z => Int.ediv_nonneg z (by omega)
  have e := Int.mul_ediv_add_emod (b - a - 1) c
  have r0 := Int.emod_nonneg (b - a - 1) (show c ≠ 0 by omega)
  have q1 : ∀ z : Int, z = (b - a - 1) / c → 0 ≤ b - a - 1 → c * z ≤ b - a - 1 := fun z hz h => by rw [hz]; omega
  unfold Builtin.Range.small
  rw [rsz hc]
  simp only [Builtin.Range.rangeFitsLong, Bool.and_eq_true, Bool.or_eq_true, decide_eq_true_eq, beq_iff_eq, hc, if_true]
  split
  · rename_i z
    have := q1 _ rfl (by omega)
    have := q0 (by omega)
    have q2 : (b - a - 1) / c ≤ b - a - 1 := by omega
    refine ⟨⟨⟨⟨?_, ?_⟩, ?_⟩, ?_⟩, ?_⟩ <;> omega
  · omega
theorem RgC.up {a b c : Int} {n : Nat} (hc : 0 < c) (hc' : c < 1073741824) (ha : -4611686018427387904 ≤ a) (ha' : a < 4611686018427387904) (hb : -4611686018427387904 ≤ b) (hb' : b < 4611686018427387904)
    (hn : (n : Int) = if a < b then (b - a - 1) / c + 1 else 0) : RgC a b c n := ⟨by omega, by omega, small_up hc hc' ha ha' hb hb', by rw [rsz hc, hn]⟩
/-- how many from a on by c before b -/
def apn (a b c : Int) : Nat := (if a < b then (b - a - 1) / c + 1 else 0).toNat
theorem apn_nonneg {a b c : Int} (hc : 0 < c) : (0 : Int) ≤ if a < b then (b - a - 1) / c + 1 else 0 := by
  split
  · have := Int.ediv_nonneg (show 0 ≤ b - a - 1 by omega) (show 0 ≤ c by omega)
    omega
  · exact Int.le_refl _
theorem apn_eq {a b c : Int} (hc : 0 < c) : (apn a b c : Int) = if a < b then (b - a - 1) / c + 1 else 0 := Int.toNat_of_nonneg (apn_nonneg hc)
theorem mem_apn {a b c y : Int} (hc : 0 < c) : y ∈ ap a c (apn a b c) ↔ a ≤ y ∧ y < b ∧ (y - a) % c = 0 := by
  rw [mem_ap]
  have e := apn_eq (a := a) (b := b) hc
  constructor
  · rintro ⟨i, hi, rfl⟩
    have ci : (0 : Int) ≤ i * c := Int.mul_nonneg (by omega) (by omega)
    refine ⟨by omega, ?_, by rw [show a + i * c - a = i * c by omega]; exact Int.mul_emod_left _ _⟩
    by_cases z : a < b
    · rw [if_pos z] at e
      have h1 : (i : Int) ≤ (b - a - 1) / c := by omega
      have h2 := Int.mul_le_mul_of_nonneg_right h1 (show 0 ≤ c by omega)
      have h3 := Int.ediv_mul_le (b - a - 1) (show c ≠ 0 by omega)
      omega
    · rw [if_neg z] at e
      omega
  · rintro ⟨h1, h2, h3⟩
    have z : a < b := by omega
    rw [if_pos z] at e
    have q := Int.mul_ediv_add_emod (y - a) c
    rw [h3, Int.add_zero] at q
    have q0 : 0 ≤ (y - a) / c := Int.ediv_nonneg (by omega) (by omega)
    refine ⟨((y - a) / c).toNat, ?_, ?_⟩
    · have h4 : (y - a) / c ≤ (b - a - 1) / c := Int.ediv_le_ediv hc (by omega)
      omega
    · rw [Int.toNat_of_nonneg q0, Int.mul_comm]
      omega
section
variable {X : Cx} {K : PySem.W.Frag}
def tLstRg3 (ta : TA) : TE := fun σ H Q => ta σ H fun vs H1 => ∃ (i j c : Int) (n : Nat), vs = [.int i, .int j, .int c] ∧ RgC i j c n ∧ n ≤ 16777216 ∧ ∀ q, H1 q = none → Q (.ref q) (upd H1 q (.lst ((ap i c n).map V.int)))
theorem vals_ap {a c : Int} {n : Nat} {acc : Array Value} (h : ItemsOf (fun i v => ∃ t, v = .int (a + i * c) t) acc n) : Vals ((ap a c n).map V.int) acc.toList := by
  have e : acc.toList.length = n := by rw [Array.length_toList]; exact h.1
  have e2 : (ap a c n).map V.int = (List.range acc.toList.length).map fun i => V.int (a + (i : Nat) * c) := by
    unfold ap
    rw [e, List.map_map]
    rfl
  rw [e2]
  refine vals_of_get acc.toList _ fun j u hj => ?_
  obtain ⟨t, rfl⟩ := h.2 j u (by rw [← hj, Array.getElem?_toList])
  exact ⟨t, rfl⟩
theorem pe_listRg3 {a b c : Expr} {ta : TA} {p p2 pos pos2 : Pos} (hcalm : X.calm = true) (hgl : Gl X "list") (hml : X.mg "list" = none) (hg : Gl X "range") (hm : X.mg "range" = none) (ha : PA X [a, b, c] ta)
    (hs : starEach [a, b, c] X.env = (false, eval a X.env) :: starEach [b, c] X.env := by rfl) (hpl : (backTo pos (starEach [b, c] X.env)).any (·.1) = false := by rfl)
    (na : starEach [.Call (.Name "range" p) [a, b, c] [] pos] X.env = (false, eval (.Call (.Name "range" p) [a, b, c] [] pos) X.env) :: starEach [] X.env := by rfl) :
    PE X (.Call (.Name "list" p2) [.Call (.Name "range" p) [a, b, c] [] pos] [] pos2) (tLstRg3 ta) := by
  refine ⟨fun pins s σ H Q I h => ?_⟩
  refine Call_ (ld_blt I hgl hml boot_list (PyProof.Rows.callWith_type1 (args_cons (Call_ (ld_blt I hg hm boot_range (PyProof.Rows.callWith_type1 (thn (ha.run pos pins s σ H _ I h) fun us s1 ⟨vs, H1, I1, r1, q1⟩ => ?_) hs hpl))) na) na))
  obtain ⟨i, j, k, n, e, ⟨c0, c1, c2, c3⟩, hn, q⟩ := q1
  subst e
  cases r1 with
  | cons r rr =>
    cases rr with
    | cons r' rr =>
      cases rr with
      | cons r'' rr =>
        cases rr
        obtain ⟨t, rfl⟩ := r
        obtain ⟨t', rfl⟩ := r'
        obtain ⟨t'', rfl⟩ := r''
        refine call_range_3 c0 ?_ (.inl (PyProof.noPylong_small c1))
        refine args_nil ?_
        have I2 : Inv X pins σ H1 { s1 with heap := s1.heap.push { cls := .type "range", data := .fields #[.int i t, .int j t', .int k t''] } } := I1.kept (t' := s1.toks) fun b o e => Heap.get?_push_of_some _ e
        refine call_list_range (n := n) (I2.ok.hd hcalm) (IsRange.new ..) c2 c3 (by omega) fun h' tk acc c' hk e' hi => ?_
        refine ⟨.ref _, upd H1 _ (.lst ((ap i k n).map V.int)), I2.laid hk (Nat.le_refl _) (show ObjOk X.prog X.w _ _ _ (.lst ((ap i k n).map V.int)) from ⟨?_, acc.toList, c', vals_ap hi, ?_⟩), rfl, q _ (I2.hok.fresh (Nat.le_refl _))⟩
        · rw [List.length_map, ap_len, sizeLine_eq]; omega
        · rw [Array.toArray_toList]; exact e'
end
/-! readings -/
def kRgI (x : V) (R : Int → Hp → Prop) (H : Hp) : Prop := ∃ n, x = .int n ∧ R n H
def kLstRg (a b : Int) (H : Hp) (Q : VK) : Prop := RgOk a b ∧ ∀ q, H q = none → Q (.ref q) (upd H q (.lst (rgV a b)))
def kLstRg3 (vs : List V) (H : Hp) (Q : VK) : Prop := ∃ (i j c : Int) (n : Nat), vs = [.int i, .int j, .int c] ∧ RgC i j c n ∧ n ≤ 16777216 ∧ ∀ q, H q = none → Q (.ref q) (upd H q (.lst ((ap i c n).map V.int)))
section
variable {K : PySem.W.Frag} {H : Hp} {Q : VK} {F : List MP} {L L' : List (Addr × HO)} {σ : Sl} {ta tb : TE} {t : TA} {a b c : Int} {n : Nat}
theorem r_lrg1 (h : ta σ H fun x H1 => kRgI x (fun n H1 => kLstRg 0 n H1 Q) H1) : tLstRg (tRg1 ta) σ H Q := h
theorem r_lrg2 (h : ta σ H fun x H1 => tb σ H1 fun y H2 => kRgI x (fun i H2 => kRgI y (fun j H2 => kLstRg i j H2 Q) H2) H2) : tLstRg (tRg2 ta tb) σ H Q := by
  have e : ∀ {x y : V} {H : Hp}, kRgI x (fun i H2 => kRgI y (fun j H2 => kLstRg i j H2 Q) H2) H → ∃ i j, x = .int i ∧ y = .int j ∧ (RgOk i j ∧ ∀ q, H q = none → Q (.ref q) (upd H q (.lst (rgV i j)))) := by
    rintro x y H ⟨i, e1, j, e2, q⟩
    exact ⟨i, j, e1, e2, q⟩
  have e3 : (fun (x : V) (H1 : Hp) => tb σ H1 fun y H2 => kRgI x (fun i H2 => kRgI y (fun j H2 => kLstRg i j H2 Q) H2) H2) = (fun (x : V) (H1 : Hp) => tb σ H1 fun y H2 => ∃ i j, x = .int i ∧ y = .int j ∧ (RgOk i j ∧ ∀ q, H2 q = none → Q (.ref q) (upd H2 q (.lst (rgV i j))))) := by
    funext x H1
    congr 1
    funext y H2
    refine propext ⟨e, ?_⟩
    rintro ⟨i, j, e1, e2, q⟩
    exact ⟨i, e1, j, e2, q⟩
  rw [e3] at h
  exact h
theorem r_lrg3 (h : t σ H fun vs H1 => kLstRg3 vs H1 Q) : tLstRg3 t σ H Q := h
theorem x_rgI {R : Int → Hp → Prop} (q : R a H) : kRgI (.int a) R H := ⟨a, rfl, q⟩
theorem x_lrg (s : S F L H) (h0 : -16777216 ≤ a) (h1 : a ≤ 16777216) (h2 : -16777216 ≤ b) (h3 : b ≤ 16777216) (h4 : b - a ≤ 16777216) (k : ∀ q H1, S F ((q, .lst ((iv a b).map V.int)) :: L) H1 → Q (.ref q) H1) : kLstRg a b H Q :=
  ⟨⟨by omega, by omega, by omega, by omega, by omega⟩, fun q hq => by rw [rgV_iv]; exact k q _ (s.new hq)⟩
theorem x_lrg0 (s : S F L H) (h3 : b ≤ 16777216) (h0 : -16777216 ≤ b) (k : ∀ q H1, S F ((q, .lst ((ap 0 1 b.toNat).map V.int)) :: L) H1 → Q (.ref q) H1) : kLstRg 0 b H Q :=
  x_lrg s (by omega) (by omega) h0 h3 (by omega) fun q H1 hS => k q H1 (by rw [show b.toNat = (b - 0).toNat by omega]; exact hS)
theorem x_lrg3 (s : S F L H) (h : RgC a b c n) (h1 : n ≤ 16777216) (k : ∀ q H1, S F ((q, .lst ((ap a c n).map V.int)) :: L) H1 → Q (.ref q) H1) : kLstRg3 [.int a, .int b, .int c] H Q := ⟨a, b, c, n, rfl, h, h1, fun q hq => k q _ (s.new hq)⟩
end
end TW
namespace TW
open PySem PySem.Spec PyProof.Rows L2
/-! ### the readings as instances: what a goal asks next (printed by mkinst.py) -/
class Step (P : Prop) (P' : outParam Prop) : Prop where
  go : P' → P
class Nth (n : Nat) (σ : Sl) (v : outParam V) : Prop where
  get : σ[n]? = some (some v)
instance {v : V} {r : Sl} : Nth 0 (some v :: r) v := ⟨rfl⟩
instance {n : Nat} {x : Option V} {r : Sl} {v : V} [h : Nth n r v] : Nth (n + 1) (x :: r) v := ⟨h.get⟩
class SetA (v : V) (n : Nat) (σ : Sl) (σ' : outParam Sl) : Prop where
  set : SetAt v n σ σ'
instance {v : V} {x : Option V} {r : Sl} : SetA v 0 (x :: r) (some v :: r) := ⟨.zero⟩
instance {v : V} {n : Nat} {x : Option V} {r r' : Sl} [h : SetA v n r r'] : SetA v (n + 1) (x :: r) (x :: r') := ⟨.succ h.set⟩
section
variable {K : PySem.W.Frag} {σ σ' : Sl} {H : Hp} {Q : VK} {v x y z : V} {i j : Int} {n k : Nat} {b : Bool} {p q a C : Addr} {xs ys : List V} {F : List MP} {L L' : List (Addr × HO)} {ta tb tc te : TE} {t t' : TA} {tt tu : TT} {D : Ends} {ts tw : TS} {g : TG} {gs : TGs} {E : XK} {sp : Sp} {f : Str} {tv : TE} {th tl : TO} {lo hi : Option Int} {c : Int} {d : HD}
instance [h : Nth n σ v] : Step (tVar n σ H Q) (Q v H) := ⟨r_var h.get⟩
instance {Q : Sl → Hp → Prop} [h : SetA v n σ σ'] : Step (gName n v σ H Q) (Q σ' H) := ⟨r_gname h.set⟩
instance {Q : Sl → Hp → Prop} [h : SetA v n σ σ'] : Step (kSet n v σ Q H) (Q σ' H) := ⟨x_kset h.set⟩
instance {ti : TIp} [h : Nth n σ x] : Step (tAug n ta ti D σ H) (ta σ H fun y H1 => ti x y H1 fun z H2 => kSet n z σ D.nx H2) := ⟨r_aug h.get⟩
instance {Q : Sl → Hp → Prop} {σ2 : Sl} {m : Nat} {w : V} [h : SetA v n σ σ'] [h2 : SetA w m σ' σ2] : Step (kPar n m [v, w] σ Q H) (Q σ2 H) := ⟨x_par h.set h2.set⟩
instance : Step (rIsA (.int i) .non H Q) (Q (.bl false) H) := ⟨x_isF (by intro z; cases z)⟩
instance : Step (rIsA (.ref p) .non H Q) (Q (.bl false) H) := ⟨x_isF (by intro z; cases z)⟩
instance : Step (rIsA (.bl b) .non H Q) (Q (.bl false) H) := ⟨x_isF (by intro z; cases z)⟩
instance {u : Str} : Step (rIsA (.str u) .non H Q) (Q (.bl false) H) := ⟨x_isF (by intro z; cases z)⟩
instance : Step (rIsnA (.int i) .non H Q) (Q (.bl true) H) := ⟨x_isnF (by intro z; cases z)⟩
instance : Step (rIsnA (.ref p) .non H Q) (Q (.bl true) H) := ⟨x_isnF (by intro z; cases z)⟩
instance : Step (rIsnA (.bl b) .non H Q) (Q (.bl true) H) := ⟨x_isnF (by intro z; cases z)⟩
instance {u : Str} : Step (rIsnA (.str u) .non H Q) (Q (.bl true) H) := ⟨x_isnF (by intro z; cases z)⟩
instance {A B : Prop} : Step (if true = true then A else B) A := ⟨iteT⟩
instance {A B : Prop} : Step (if false = true then A else B) B := ⟨iteF⟩
instance {A B : Prop} : Step (if (!true) = true then A else B) B := ⟨i_nt⟩
instance {A B : Prop} : Step (if (!false) = true then A else B) A := ⟨i_nf⟩
instance (priority := 1000)  : Step (tSeq ts tw D σ H) (ts { nx := tw D, rt := D.rt, bk := D.bk, ct := D.ct } σ H) := ⟨r_seq⟩
instance (priority := 1000) {r : R2} : Step (tOp r ta tb σ H Q) (ta σ H fun x H1 => tb σ H1 fun y H2 => r x y H2 Q) := ⟨r_op⟩
instance (priority := 1000)  : Step (tC v σ H Q) (Q v H) := ⟨r_c⟩
instance (priority := 1000) {r : List V → Hp → VK → Prop} : Step (tCB r t σ H Q) (t σ H fun vs H1 => r vs H1 Q) := ⟨r_cb⟩
instance (priority := 1000) {Q : List V → Hp → Prop} : Step (tCons ta t σ H Q) (ta σ H fun x H1 => t σ H1 fun xs H2 => Q (x :: xs) H2) := ⟨r_cons⟩
instance (priority := 1000) {Q : List V → Hp → Prop} : Step (tNil σ H Q) (Q [] H) := ⟨r_nil⟩
instance (priority := 1000)  : Step (tCall sp [] E t σ H Q) (t σ H fun vs H1 => sp vs H1 Q E) := ⟨r_call⟩
instance (priority := 1000) {m : Str} : Step (tMeth C m sp [] E ta t σ H Q) (ta σ H fun x H1 => rMeth C m sp E t σ x H1 Q) := ⟨r_meth⟩
instance (priority := 1000)  : Step (tProp C sp [] E ta σ H Q) (ta σ H fun x H1 => rProp C sp E x H1 Q) := ⟨r_prop⟩
instance (priority := 1000) {f : Str} : Step (tFld K ta f σ H Q) (ta σ H fun x H1 => rFld K f x H1 Q) := ⟨r_fld⟩
instance (priority := 1000)  : Step (tMake C sp [] E t σ H Q) (t σ H fun vs H1 => rMake C sp E vs H1 Q) := ⟨r_make⟩
instance (priority := 1000) {r : V → Hp → VK → Prop} : Step (tUn r ta σ H Q) (ta σ H fun x H1 => r x H1 Q) := ⟨r_un⟩
instance (priority := 1000)  : Step (tNext D σ H) (D.nx σ H) := ⟨r_next⟩
instance (priority := 1000)  : Step (tAsg te g D σ H) (te σ H fun v H1 => g v σ H1 D.nx) := ⟨r_asg⟩
instance (priority := 1000)  : Step (tDrop te D σ H) (te σ H fun _ H1 => D.nx σ H1) := ⟨r_drop⟩
instance (priority := 1000)  : Step (tRet te D σ H) (te σ H D.rt) := ⟨r_ret⟩
instance (priority := 1000)  : Step (tRetN D σ H) (D.rt .non H) := ⟨r_retN⟩
instance (priority := 1000)  : Step (tCont D σ H) (D.ct σ H) := ⟨r_cont⟩
instance (priority := 1000)  : Step (tBreak D σ H) (D.bk σ H) := ⟨r_brk⟩
instance (priority := 1000) {Q : Bool → Hp → Prop} : Step (tTest te σ H Q) (te σ H fun x H' => kBl x Q H') := ⟨r_tst⟩
instance (priority := 1000) {Q : Bool → Hp → Prop} : Step (tB te σ H Q) (te σ H fun x H' => kBl x Q H') := ⟨r_tB⟩
instance (priority := 1000) {Q : Bool → Hp → Prop} : Step (kBl (.bl b) Q H) (Q b H) := ⟨x_bl⟩
instance (priority := 1000) {Q : Bool → Hp → Prop} : Step (tAnd tt tu σ H Q) (tt σ H fun c H1 => if c = true then tu σ H1 Q else Q false H1) := ⟨r_and⟩
instance (priority := 1000) {Q : Bool → Hp → Prop} : Step (tOr tt tu σ H Q) (tt σ H fun c H1 => if c = true then Q true H1 else tu σ H1 Q) := ⟨r_or⟩
instance (priority := 1000) {Q : Bool → Hp → Prop} : Step (tNot tt σ H Q) (tt σ H fun c H1 => Q (!c) H1) := ⟨r_not⟩
instance (priority := 1000)  : Step (tAndV ta tb σ H Q) (ta σ H fun x H1 => kBl x (fun c H1 => if c = true then tb σ H1 Q else Q (.bl false) H1) H1) := ⟨r_andV⟩
instance (priority := 1000)  : Step (tOrV ta tb σ H Q) (ta σ H fun x H1 => kBl x (fun c H1 => if c = true then Q (.bl true) H1 else tb σ H1 Q) H1) := ⟨r_orV⟩
instance (priority := 1000)  : Step (tNotV ta σ H Q) (ta σ H fun x H1 => kBl x (fun c H1 => Q (.bl (!c)) H1) H1) := ⟨r_notV⟩
instance (priority := 1000)  : Step (tIf tt ta tb σ H Q) (tt σ H fun c H1 => if c = true then ta σ H1 Q else tb σ H1 Q) := ⟨r_if⟩
instance (priority := 1000) {r r' : R2} : Step (tChain r r' ta tb tc σ H Q) (ta σ H fun x H1 => tb σ H1 fun y H2 => r x y H2 fun z H3 => kBl z (fun k H3 => if k = true then tc σ H3 fun w' H4 => r' y w' H4 Q else Q (.bl false) H3) H3) := ⟨r_chain⟩
instance (priority := 1000) {Q : Bool → Hp → Prop} : Step (tYes σ H Q) (Q true H) := ⟨r_yes⟩
instance (priority := 1000)  : Step (tLst t σ H Q) (t σ H fun xs H1 => kNewL xs H1 Q) := ⟨r_lst⟩
instance (priority := 1000)  : Step (tTup t σ H Q) (t σ H fun xs H1 => kNewT xs H1 Q) := ⟨r_tup⟩
instance (priority := 1000) {T : String} {r : V → List V → Hp → VK → Prop} : Step (tBM K T r ta t σ H Q) (ta σ H fun x H1 => tyV K T x H1 ∧ t σ H1 fun xs H2 => r x xs H2 Q) := ⟨r_bm⟩
instance (priority := 1000) {T : String} {r : V → List V → Hp → VK → Prop} : Step (tBM0 K T r ta σ H Q) (ta σ H fun x H1 => tyV K T x H1 ∧ r x [] H1 Q) := ⟨r_bm0⟩
instance (priority := 1000) {wi : TI} : Step (tFor wi g ts D σ H) (wi σ H fun J H1 => kFor J g ts D σ H1) := ⟨r_for⟩
instance (priority := 1000) {R : It → Hp → Prop} : Step (iRng1 t σ H R) (t σ H fun vs H1 => kRng1 vs R H1) := ⟨r_rng1⟩
instance (priority := 1000) {R : It → Hp → Prop} : Step (iRng2 t σ H R) (t σ H fun vs H1 => kRng2 vs R H1) := ⟨r_rng2⟩
instance (priority := 1000) {R : It → Hp → Prop} : Step (iList K ta σ H R) (ta σ H fun x H1 => kIl K x R H1) := ⟨r_il⟩
instance (priority := 1000) {R : It → Hp → Prop} : Step (iTup K ta σ H R) (ta σ H fun x H1 => kIt K x R H1) := ⟨r_it⟩
instance (priority := 1000) {wi : TI} {vs : List Nat} : Step (tLc wi g tt te vs σ H Q) (wi σ H fun J H1 => kLc J g tt te vs σ H1 Q) := ⟨r_lc⟩
instance (priority := 1000) {to ti : TE} {r : TSet} {Q : Sl → Hp → Prop} : Step (gSub to ti r v σ H Q) (to σ H fun o H1 => ti σ H1 fun i H2 => r o i v H2 fun H3 => Q σ H3) := ⟨r_gsub⟩
instance (priority := 1000) {Q : Sl → Hp → Prop} {gt : TGs} : Step (gCons g gt (v :: xs) σ H Q) (g v σ H fun σ' H' => gt xs σ' H' Q) := ⟨r_gcons⟩
instance (priority := 1000) {Q : Sl → Hp → Prop} : Step (gNil [] σ H Q) (Q σ H) := ⟨r_gnil⟩
instance (priority := 1000) {n m : Nat} : Step (tPar n m t D σ H) (t σ H fun vs H1 => kPar n m vs σ D.nx H1) := ⟨r_par⟩
instance (priority := 1000) {St : Hp → Prop} {f : V → (Hp → Prop) → Hp → Prop} {R : Hp → Prop} : Step (RunL St f R [] H) (R H) := ⟨r_runN⟩
instance (priority := 1000) {St : Hp → Prop} {f : V → (Hp → Prop) → Hp → Prop} {R : Hp → Prop} : Step (RunL St f R (x :: ys) H) (f x (kSt St (RunL St f R ys)) H) := ⟨r_runC⟩
instance (priority := 1000) {St : Hp → Prop} : Step (RunF St g ts D [] σ H) (D.nx σ H) := ⟨r_rufN⟩
instance (priority := 1000) {St : Hp → Prop} : Step (RunF St g ts D (x :: ys) σ H) (g x σ H fun σ2 H2 => ts { nx := fun σ H => kSt St (RunF St g ts D ys σ) H, rt := D.rt, ct := fun σ H => kSt St (RunF St g ts D ys σ) H, bk := D.nx } σ2 H2) := ⟨r_rufC⟩
instance (priority := 1000) {ta tv : TE} {D : Ends} : Step (sFld K ta tv f D σ H) (tv σ H fun y H1 => ta σ H1 fun z H2 => rSfld K f z y H2 fun H3 => D.nx σ H3) := ⟨r_sfld⟩
instance (priority := 1000) {R : It → Hp → Prop} : Step (iEnT K t σ H R) (t σ H fun vs H1 => kEnT K vs R H1) := ⟨r_ent⟩
instance (priority := 1000) {R : Prop} : Step (V.non = V.non ∧ R) (R) := ⟨r_mk⟩
instance (priority := 1000) {r : V → Option Int → Option Int → Hp → VK → Prop} : Step (L2.tSl r te tl th σ H Q) (te σ H fun x H1 => tl σ H1 fun l H2 => th σ H2 fun u H3 => r x l u H3 Q) := ⟨r_sl⟩
instance (priority := 1000) {Q : Option Int → Hp → Prop} : Step (tNoPart σ H Q) (Q none H) := ⟨r_npart⟩
instance (priority := 1000) {Q : Option Int → Hp → Prop} : Step (tPart te σ H Q) (te σ H fun x H1 => kPart x Q H1) := ⟨r_part⟩
instance (priority := 1000) {Q : Option Int → Hp → Prop} : Step (kPart (.int i) Q H) (Q (some i) H) := ⟨x_part⟩
instance (priority := 1000) {R : It → Hp → Prop} : Step (iRng3 t σ H R) (t σ H fun vs H1 => kRng3 vs R H1) := ⟨r_rng3⟩
instance (priority := 1000)  : Step (tLstRg (tRg1 ta) σ H Q) (ta σ H fun x H1 => kRgI x (fun n H1 => kLstRg 0 n H1 Q) H1) := ⟨r_lrg1⟩
instance (priority := 1000)  : Step (tLstRg (tRg2 ta tb) σ H Q) (ta σ H fun x H1 => tb σ H1 fun y H2 => kRgI x (fun i H2 => kRgI y (fun j H2 => kLstRg i j H2 Q) H2) H2) := ⟨r_lrg2⟩
instance (priority := 1000)  : Step (tLstRg3 t σ H Q) (t σ H fun vs H1 => kLstRg3 vs H1 Q) := ⟨r_lrg3⟩
instance (priority := 1000) {a : Int} {R : Int → Hp → Prop} : Step (kRgI (.int a) R H) (R a H) := ⟨x_rgI⟩
instance (priority := 1000) {f : Int → Int → Int} : Step (ipI f (.int i) (.int j) H Q) (Q (.int (f i j)) H) := ⟨x_ipI⟩
instance (priority := 1000)  : Step (rIsi K [.int i, .ty "int"] H Q) (Q (.bl true) H) := ⟨iII⟩
instance (priority := 1000)  : Step (rIsi K [.int i, .ty "bool"] H Q) (Q (.bl false) H) := ⟨iIB⟩
instance (priority := 1000)  : Step (rIsi K [.int i, .ty "str"] H Q) (Q (.bl false) H) := ⟨iIS⟩
instance (priority := 1000)  : Step (rIsi K [.int i, .ty "tuple"] H Q) (Q (.bl false) H) := ⟨iIT⟩
instance (priority := 1000)  : Step (rIsi K [.int i, .ty "list"] H Q) (Q (.bl false) H) := ⟨iIL⟩
instance (priority := 1000)  : Step (rIsi K [.bl b, .ty "int"] H Q) (Q (.bl true) H) := ⟨iBI⟩
instance (priority := 1000)  : Step (rIsi K [.bl b, .ty "bool"] H Q) (Q (.bl true) H) := ⟨iBB⟩
instance (priority := 1000)  : Step (rIsi K [.bl b, .ty "str"] H Q) (Q (.bl false) H) := ⟨iBS⟩
instance (priority := 1000)  : Step (rIsi K [.bl b, .ty "tuple"] H Q) (Q (.bl false) H) := ⟨iBT⟩
instance (priority := 1000)  : Step (rIsi K [.bl b, .ty "list"] H Q) (Q (.bl false) H) := ⟨iBL⟩
instance (priority := 1000) {z : Str} : Step (rIsi K [.str z, .ty "int"] H Q) (Q (.bl false) H) := ⟨iSI⟩
instance (priority := 1000) {z : Str} : Step (rIsi K [.str z, .ty "bool"] H Q) (Q (.bl false) H) := ⟨iSB⟩
instance (priority := 1000) {z : Str} : Step (rIsi K [.str z, .ty "str"] H Q) (Q (.bl true) H) := ⟨iSS⟩
instance (priority := 1000) {z : Str} : Step (rIsi K [.str z, .ty "tuple"] H Q) (Q (.bl false) H) := ⟨iST⟩
instance (priority := 1000) {z : Str} : Step (rIsi K [.str z, .ty "list"] H Q) (Q (.bl false) H) := ⟨iSL⟩
instance (priority := 1000)  : Step (rIsi K [.non, .ty "int"] H Q) (Q (.bl false) H) := ⟨iNI⟩
instance (priority := 1000)  : Step (rIsi K [.non, .ty "bool"] H Q) (Q (.bl false) H) := ⟨iNB⟩
instance (priority := 1000)  : Step (rIsi K [.non, .ty "str"] H Q) (Q (.bl false) H) := ⟨iNS⟩
instance (priority := 1000)  : Step (rIsi K [.non, .ty "tuple"] H Q) (Q (.bl false) H) := ⟨iNT⟩
instance (priority := 1000)  : Step (rIsi K [.non, .ty "list"] H Q) (Q (.bl false) H) := ⟨iNL⟩
instance (priority := 1000)  : Step (rAddA K (.int i) (.int j) H Q) (Q (.int (i + j)) H) := ⟨x_addI⟩
instance (priority := 1000)  : Step (rSubA (.int i) (.int j) H Q) (Q (.int (i - j)) H) := ⟨x_sub⟩
instance (priority := 1000)  : Step (rU (fun i => .int (-i)) (.int i) H Q) (Q (.int (-i)) H) := ⟨x_neg⟩
instance (priority := 1000)  : Step (rLtA (.int i) (.int j) H Q) (Q (.bl (decide (i < j))) H) := ⟨x_lt⟩
instance (priority := 1000)  : Step (rLeA (.int i) (.int j) H Q) (Q (.bl (decide (i ≤ j))) H) := ⟨x_le⟩
instance (priority := 1000)  : Step (rGtA (.int i) (.int j) H Q) (Q (.bl (decide (j < i))) H) := ⟨x_gt⟩
instance (priority := 1000)  : Step (rGeA (.int i) (.int j) H Q) (Q (.bl (decide (j ≤ i))) H) := ⟨x_ge⟩
instance (priority := 1000) {u w : Str} : Step (rEqA K (.str u) (.str w) H Q) (Q (.bl (decide (u = w))) H) := ⟨x_eqS⟩
instance (priority := 1000) {u w : Str} : Step (rNeA K (.str u) (.str w) H Q) (Q (.bl (!decide (u = w))) H) := ⟨x_neS⟩
instance (priority := 1000)  : Step (rIsA .non .non H Q) (Q (.bl true) H) := ⟨x_isN⟩
instance (priority := 1000)  : Step (rIsnA .non .non H Q) (Q (.bl false) H) := ⟨x_isnN⟩
instance (priority := 1000)  : Step (rMaxA K [.int i, .int j] H Q) (Q (.int (max i j)) H) := ⟨x_max2⟩
instance (priority := 1000)  : Step (rMinA K [.int i, .int j] H Q) (Q (.int (min i j)) H) := ⟨x_min2⟩
instance (priority := 1000)  : Step (rAbs [.int i] H Q) (Q (.int i.natAbs) H) := ⟨x_abs⟩
instance (priority := 1000)  : Step (rIntOf [.int i] H Q) (Q (.int i) H) := ⟨x_intI⟩
instance (priority := 1000)  : Step (rIntOf [.bl b] H Q) (Q (.int (if b then 1 else 0)) H) := ⟨x_intB⟩
instance (priority := 1000)  : Step (rPowA (.int 10) (.int 6) H Q) (Q (.int 1000000) H) := ⟨x_pow106⟩
end
class Steps (P : Prop) (P' : outParam Prop) : Prop where
  go : P' → P
instance (priority := 10) {P : Prop} : Steps P P := ⟨id⟩
instance (priority := 100) {P P1 P2 : Prop} [h : Step P P1] [h2 : Steps P1 P2] : Steps P P2 := ⟨fun z => h.go (h2.go z)⟩
theorem go_one {P P1 : Prop} [h : Step P P1] (q : P1) : P := h.go q
theorem go_all {P P1 P2 : Prop} [h : Step P P1] [h2 : Steps P1 P2] (q : P2) : P := h.go (h2.go q)
end TW
namespace TW
open PySem PySem.Spec PyProof.Rows L2
section
variable {K : PySem.W.Frag} {H : Hp} {Q : VK} {E : XK} {F : List MP} {L L' : List (Addr × HO)} {x p : Addr} {d : HD} {t n b : Int}
theorem c_mostM (s : S F L H) (e : hallP K x d ∈ F) (ok : d.ok) (k0 : 0 < d.gr → ∀ H', S F L H' → Q .non H') (k1 : ∀ m, d.gr = 0 → d.IsMost m → ∀ H', S F L H' → Q (.int m) H') : spMost K gMost [.ref x] H Q E := ⟨F, L, x, d, rfl, ok, e, s, k0, k1⟩
theorem HD.wait_nonneg {d : HD} (h : d.ok) {n w : Int} (hw : d.IsWait n w) : 0 ≤ w := by
  obtain ⟨c, t, _, a2, a3, _, rfl⟩ := hw
  have h1 := HD.C_le_T h (c + 1)
  rcases Nat.lt_or_ge c t with z | z
  · have := HD.T_mono h (show c + 1 ≤ t from z)
    omega
  · omega
theorem ite_int {c : Prop} [Decidable c] : (if decide c = true then (1 : Int) else 0) = ((if c then 1 else 0 : Nat) : Int) := by by_cases z : c <;> simp [z]
theorem fl_zero {g : Nat → Int} {n : Int} : (fl g n 0).map V.int = [] := rfl
theorem fl_yesV {g : Nat → Int} {n : Int} {j : Nat} (h : n < g (0 + (j : Int) + 1).toNat) : (fl g n (j + 1)).map V.int = (fl g n j).map V.int ++ [V.int (0 + (j : Int))] := by
  rw [show (0 + (j : Int) + 1).toNat = j + 1 by omega] at h
  rw [fl_yes h, List.map_append, Int.zero_add]
  rfl
theorem fl_noV {g : Nat → Int} {n : Int} {j : Nat} (h : ¬ n < g (0 + (j : Int) + 1).toNat) : (fl g n (j + 1)).map V.int = (fl g n j).map V.int := by
  rw [show (0 + (j : Int) + 1).toNat = j + 1 by omega] at h
  rw [fl_no h]
theorem ok_fix {h : HD} (ok : h.ok) : HD.ok ⟨h.m, [1, 0, 0, 1], [1, 0, 1, 0], h.lt⟩ :=
  ⟨ok.m0, ok.m1, by show 0 < 4; decide, by show 4 ≤ 12; decide, by show ∀ x ∈ ([1, 0, 0, 1] : List Int), 0 ≤ x ∧ x ≤ 9; decide, by show 0 < 4; decide, by show 4 ≤ 12; decide, by show ∀ x ∈ ([1, 0, 1, 0] : List Int), 0 ≤ x ∧ x ≤ 9; decide, ok.l0, ok.l1⟩
end
end TW
namespace TW
open PySem PySem.Spec PyProof.Rows L2
/-! ### ascending lists -/
def Asc : List Int → Prop
  | [] => True
  | x :: r => (∀ y ∈ r, x < y) ∧ Asc r
theorem asc_eq : ∀ {xs ys : List Int}, Asc xs → Asc ys → (∀ y, y ∈ xs ↔ y ∈ ys) → xs = ys
  | [], [], _, _, _ => rfl
  | [], y :: ys, _, _, h => absurd ((h y).mpr List.mem_cons_self) (by simp)
  | x :: xs, [], _, _, h => absurd ((h x).mp List.mem_cons_self) (by simp)
  | x :: xs, y :: ys, hx, hy, h => by
    have e : x = y := by
      rcases List.mem_cons.mp ((h x).mp List.mem_cons_self) with e | e
      · exact e
      · have h1 := hy.1 x e
        rcases List.mem_cons.mp ((h y).mpr List.mem_cons_self) with f | f
        · exact f.symm
        · have := hx.1 y f
          omega
    subst e
    refine congrArg (x :: ·) (asc_eq hx.2 hy.2 fun z => ⟨fun hz => ?_, fun hz => ?_⟩)
    · rcases List.mem_cons.mp ((h z).mp (List.mem_cons_of_mem _ hz)) with e | e
      · have := hx.1 z hz
        omega
      · exact e
    · rcases List.mem_cons.mp ((h z).mpr (List.mem_cons_of_mem _ hz)) with e | e
      · have := hy.1 z hz
        omega
      · exact e
theorem asc_append {xs ys : List Int} (h1 : Asc xs) (h2 : Asc ys) (h : ∀ x ∈ xs, ∀ y ∈ ys, x < y) : Asc (xs ++ ys) := by
  induction xs with
  | nil => exact h2
  | cons x r ih =>
    refine ⟨fun y hy => ?_, ih h1.2 fun z hz => h z (List.mem_cons_of_mem _ hz)⟩
    rcases List.mem_append.mp hy with hy | hy
    · exact h1.1 y hy
    · exact h x List.mem_cons_self y hy
theorem asc_ap {a c : Int} (hc : 0 < c) (n : Nat) : Asc (ap a c n) := by
  induction n with
  | zero => exact trivial
  | succ n ih =>
    rw [ap_succ]
    refine asc_append ih ⟨fun y hy => (by cases hy), trivial⟩ fun x hx y hy => ?_
    obtain ⟨i, hi, rfl⟩ := mem_ap.mp hx
    rw [List.mem_singleton.mp hy]
    have := Int.mul_lt_mul_of_pos_right (show (i : Int) < n by omega) hc
    omega
theorem asc_filter {xs : List Int} (h : Asc xs) (p : Int → Bool) : Asc (xs.filter p) := by
  induction xs with
  | nil => exact trivial
  | cons x r ih =>
    rw [List.filter_cons]
    split
    · exact ⟨fun y hy => h.1 y (List.mem_filter.mp hy).1, ih h.2⟩
    · exact ih h.2
/-- the numbers with some digits, from f on, before e -/
def btw (m dg f e : Int) : List Int := ap (f + (dg - f) % m) m (apn (f + (dg - f) % m) e m)
theorem mem_btw {m dg f e y : Int} (hm : 0 < m) : y ∈ btw m dg f e ↔ f ≤ y ∧ y < e ∧ (y - dg) % m = 0 := by
  unfold btw
  rw [mem_apn hm]
  have r0 := Int.emod_nonneg (dg - f) (show m ≠ 0 by omega)
  have r1 := Int.emod_lt_of_pos (dg - f) hm
  have q := Int.mul_ediv_add_emod (dg - f) m
  constructor
  · rintro ⟨h1, h2, h3⟩
    refine ⟨by omega, h2, ?_⟩
    have e1 : y - dg = (y - (f + (dg - f) % m)) + m * (-((dg - f) / m)) := by
      rw [Int.mul_neg]; omega
    rw [e1, Int.add_mul_emod_self_left, h3]
  · rintro ⟨h1, h2, h3⟩
    have q2 := Int.mul_ediv_add_emod (y - dg) m
    rw [h3, Int.add_zero] at q2
    have e1 : y - (f + (dg - f) % m) = m * ((y - dg) / m + (dg - f) / m) := by
      rw [Int.mul_add]; omega
    refine ⟨?_, h2, by rw [e1]; exact Int.mul_emod_right _ _⟩
    have k : -1 < (y - dg) / m + (dg - f) / m := by
      have : m * (-1) < m * ((y - dg) / m + (dg - f) / m) := by omega
      exact Int.lt_of_mul_lt_mul_left this (by omega)
    have := Int.mul_nonneg (show 0 ≤ m by omega) (show 0 ≤ (y - dg) / m + (dg - f) / m by omega)
    omega
theorem asc_btw {m dg f e : Int} (hm : 0 < m) : Asc (btw m dg f e) := asc_ap hm _
theorem btw_len {m dg f e : Int} (hm : 0 < m) : ((btw m dg f e).length : Int) ≤ max 0 ((e - f) / m + 1) := by
  unfold btw
  rw [ap_len, apn_eq hm]
  have r0 := Int.emod_nonneg (dg - f) (show m ≠ 0 by omega)
  split
  · have := Int.ediv_le_ediv hm (show e - (f + (dg - f) % m) - 1 ≤ e - f by omega)
    omega
  · omega
theorem btw_filter {m dg f e : Int} (hm : 0 < m) (p : Int → Bool) (hp : ∀ y, p y = decide ((y - dg) % m = 0)) : btw m dg f e = (iv f e).filter p := by
  refine asc_eq (asc_btw hm) (asc_filter (asc_ap (by decide) _) p) fun y => ?_
  rw [mem_btw hm, List.mem_filter, mem_iv, hp]
  simp only [decide_eq_true_eq]
  omega
theorem emod_eq_iff {m y dg : Int} (hm : 0 < m) (d0 : 0 ≤ dg) (d1 : dg < m) : (y - dg) % m = 0 ↔ y % m = dg := by
  constructor
  · intro h
    have q := Int.mul_ediv_add_emod (y - dg) m
    rw [h, Int.add_zero] at q
    rw [show y = dg + m * ((y - dg) / m) by omega, Int.add_mul_emod_self_left]
    exact Int.emod_eq_of_lt d0 d1
  · intro h
    have q := Int.mul_ediv_add_emod y m
    rw [h] at q
    rw [show y - dg = m * (y / m) by omega]
    exact Int.mul_emod_right _ _
theorem emod_sub {m y n : Int} (hm : 0 < m) : (y - n % m) % m = 0 ↔ (y - n) % m = 0 := by
  have q := Int.mul_ediv_add_emod n m
  rw [show y - n = (y - n % m) + m * (-(n / m)) by rw [Int.mul_neg]; omega, Int.add_mul_emod_self_left]
/-! ### lists of pairs -/
inductive Pr2 (K : PySem.W.Frag) (E : Hp) : List V → List (Int × Int) → Prop where
  | nil : Pr2 K E [] []
  | cons {q x y vs ps} : SqT K E q [.int x, .int y] → Pr2 K E vs ps → Pr2 K E (.ref q :: vs) ((x, y) :: ps)
theorem Pr2.mono {K : PySem.W.Frag} {E E' : Hp} (e : Same E E') {vs : List V} {ps : List (Int × Int)} (h : Pr2 K E vs ps) : Pr2 K E' vs ps := by
  induction h with
  | nil => exact .nil
  | cons h1 _ ih => exact .cons (sqT_mono e h1) ih
theorem Pr2.app {K : PySem.W.Frag} {E : Hp} {vs ws : List V} {ps qs : List (Int × Int)} (h : Pr2 K E vs ps) (h2 : Pr2 K E ws qs) : Pr2 K E (vs ++ ws) (ps ++ qs) := by
  induction h with
  | nil => exact h2
  | cons h1 _ ih => exact .cons h1 ih
theorem Pr2.len {K : PySem.W.Frag} {E : Hp} {vs : List V} {ps : List (Int × Int)} (h : Pr2 K E vs ps) : vs.length = ps.length := by
  induction h with
  | nil => rfl
  | cons _ _ ih => rw [List.length_cons, List.length_cons, ih]
theorem Pr2.get {K : PySem.W.Frag} {E : Hp} {vs : List V} {ps : List (Int × Int)} (h : Pr2 K E vs ps) : ∀ {i : Nat} {v : V}, vs[i]? = some v → ∃ q x y, v = .ref q ∧ ps[i]? = some (x, y) ∧ SqT K E q [.int x, .int y] := by
  induction h with
  | nil => intro i v h; simp at h
  | cons h1 _ ih =>
    intro i v h
    cases i with
    | zero =>
      cases h
      exact ⟨_, _, _, rfl, rfl, h1⟩
    | succ i => exact ih h
theorem Pr2.eq2 {K : PySem.W.Frag} {E : Hp} {n : Nat} {vs ws : List V} {ps : List (Int × Int)} (h : Pr2 K E vs ps) : Pr2 K E ws ps → Fa2 (Eq2 K E (n + 1)) vs ws := by
  induction h generalizing ws with
  | nil => intro h2; cases h2; exact .nil
  | cons h1 _ ih =>
    intro h2
    cases h2 with
    | cons h3 h4 => exact .cons (.tup h1 h3 (Nat.le_of_ble_eq_true rfl) (.cons (.int rfl) (.cons (.int rfl) .nil))) (ih h4)
def prP (K : PySem.W.Frag) (vs : List V) (ps : List (Int × Int)) : MP := ⟨fun E => Pr2 K E vs ps, fun _ _ e h => h.mono e⟩
/-- the mistaken ones of a tick -/
def mst (m f e l : Int) : Nat → List (Int × Int)
  | 0 => []
  | i + 1 => mst m f e l i ++ (btw m ((f + i) % m) e l).map fun o => (f + i, o)
def MstL (d : HD) (t : Nat) : List (Int × Int) := mst d.m (d.C t) (d.C (t + 1)) (d.T (t + 1)) (d.C (t + 1) - d.C t).toNat
theorem mem_mst {m f e l : Int} (hm : 0 < m) {p : Int × Int} {i : Nat} : p ∈ mst m f e l i ↔ f ≤ p.1 ∧ p.1 < f + i ∧ e ≤ p.2 ∧ p.2 < l ∧ (p.2 - p.1) % m = 0 := by
  induction i with
  | zero =>
    unfold mst
    constructor
    · intro h; cases h
    · intro h; omega
  | succ i ih =>
    unfold mst
    rw [List.mem_append, ih, List.mem_map]
    constructor
    · rintro (h | ⟨o, ho, rfl⟩)
      · omega
      · rw [mem_btw hm, emod_sub hm] at ho
        refine ⟨by show f ≤ f + i; omega, by show f + i < f + ((i + 1 : Nat) : Int); omega, ho.1, ho.2.1, ho.2.2⟩
    · rintro ⟨h1, h2, h3, h4, h5⟩
      by_cases z : p.1 < f + i
      · exact .inl ⟨h1, z, h3, h4, h5⟩
      · have e : p.1 = f + i := by omega
        refine .inr ⟨p.2, ?_, by rw [← e]⟩
        rw [mem_btw hm, emod_sub hm, ← e]
        exact ⟨h3, h4, h5⟩
/-- someone is mistaken in the tick -/
def Mis (d : HD) (t : Nat) : Prop := MstL d t ≠ []
theorem mis_iff {d : HD} (h : d.ok) (t : Nat) : Mis d t ↔ 0 < d.C (t + 1) - d.C t ∧ max 0 (d.m - (d.C (t + 1) - d.C t)) < d.T (t + 1) - d.C (t + 1) := by
  have m0 := h.m0
  have hm : 0 < d.m := by omega
  have c1 := HD.C_mono1 h t
  constructor
  · intro hne
    obtain ⟨p, hp⟩ := List.exists_mem_of_ne_nil _ hne
    obtain ⟨h1, h2, h3, h4, h5⟩ := (mem_mst hm).mp hp
    have q := Int.mul_ediv_add_emod (p.2 - p.1) d.m
    rw [h5, Int.add_zero] at q
    have k : 0 < (p.2 - p.1) / d.m := by
      have : d.m * 0 < d.m * ((p.2 - p.1) / d.m) := by omega
      exact Int.lt_of_mul_lt_mul_left this (by omega)
    have := Int.mul_le_mul_of_nonneg_left (show 1 ≤ (p.2 - p.1) / d.m by omega) (show 0 ≤ d.m by omega)
    omega
  · rintro ⟨h1, h2⟩ hnil
    have key : ∀ p, p ∉ MstL d t := fun p hp => by rw [hnil] at hp; cases hp
    -- the pair that lies m apart
    by_cases z : d.m ≤ d.C (t + 1) - d.C t
    · refine key (d.C (t + 1) - d.m, d.C (t + 1)) ((mem_mst hm).mpr ⟨?_, ?_, ?_, ?_, ?_⟩)
      · show d.C t ≤ d.C (t + 1) - d.m; omega
      · show d.C (t + 1) - d.m < _; omega
      · exact Int.le_refl _
      · show d.C (t + 1) < d.T (t + 1); omega
      · show (d.C (t + 1) - (d.C (t + 1) - d.m)) % d.m = 0
        rw [show d.C (t + 1) - (d.C (t + 1) - d.m) = d.m by omega]
        exact Int.emod_self
    · refine key (d.C t, d.C t + d.m) ((mem_mst hm).mpr ⟨?_, ?_, ?_, ?_, ?_⟩)
      · exact Int.le_refl _
      · show d.C t < _; omega
      · show d.C (t + 1) ≤ d.C t + d.m; omega
      · show d.C t + d.m < d.T (t + 1); omega
      · show (d.C t + d.m - d.C t) % d.m = 0
        rw [show d.C t + d.m - d.C t = d.m by omega]
        exact Int.emod_self
/-! ### the first tick at which a size is above a bound -/
/-- v is the first tick with P, or None if there is none -/
def First (P : Nat → Prop) (v : V) : Prop := (v = .non ∧ ∀ t, ¬ P t) ∨ ∃ t : Nat, v = .int t ∧ P t ∧ ∀ s, s < t → ¬ P s
theorem First.uniq {P : Nat → Prop} {v w : V} (h1 : First P v) (h2 : First P w) : v = w := by
  rcases h1 with ⟨rfl, a⟩ | ⟨t, rfl, a, b⟩
  · rcases h2 with ⟨rfl, _⟩ | ⟨s, _, c, _⟩
    · rfl
    · exact absurd c (a s)
  · rcases h2 with ⟨_, c⟩ | ⟨s, rfl, c, e⟩
    · exact absurd a (c t)
    · rcases Nat.lt_trichotomy t s with z | z | z
      · exact absurd a (e t z)
      · rw [z]
      · exact absurd c (b s z)
structure Grow (f b : Nat → Int) (A : Nat → Prop) (st per : Nat) (g : Int) : Prop where
  p0 : 0 < per
  f_ : ∀ t, st ≤ t → f (t + per) = f t + g
  b_ : ∀ t, st ≤ t → b (t + per) = b t
  a_ : ∀ t, st ≤ t → (A (t + per) ↔ A t)
theorem Grow.mul {f b : Nat → Int} {A : Nat → Prop} {st per : Nat} {g : Int} (G : Grow f b A st per g) (t k : Nat) (h : st ≤ t) : f (t + k * per) = f t + k * g ∧ b (t + k * per) = b t ∧ (A (t + k * per) ↔ A t) := by
  induction k with
  | zero => simp
  | succ k ih =>
    have e : t + (k + 1) * per = t + k * per + per := by rw [Nat.add_mul]; omega
    rw [e, G.f_ _ (by omega), G.b_ _ (by omega), G.a_ _ (by omega), ih.1, ih.2.1, ih.2.2, show ((k + 1 : Nat) : Int) = (k : Int) + 1 by omega, Int.add_mul]
    exact ⟨by omega, rfl, Iff.rfl⟩
theorem Grow.back {f b : Nat → Int} {A : Nat → Prop} {st per : Nat} {g : Int} (G : Grow f b A st per g) (s : Nat) (h : st ≤ s) : ∃ t k : Nat, st ≤ t ∧ t < st + per ∧ s = t + k * per := by
  have e := Nat.mod_add_div (s - st) per
  have r := Nat.mod_lt (s - st) G.p0
  refine ⟨st + (s - st) % per, (s - st) / per, by omega, by omega, ?_⟩
  rw [Nat.mul_comm] at e
  omega
/-- how late it comes at a tick of the window -/
def far (f b : Nat → Int) (per : Nat) (g : Int) (t : Nat) : Int := t + ((b t - f t) / g + 1) * per
theorem Grow.far_ {f b : Nat → Int} {A : Nat → Prop} {st per : Nat} {g : Int} (G : Grow f b A st per g) (g0 : 0 < g) {t : Nat} (h : st ≤ t) (ha : A t) (hn : f t ≤ b t) :
    ∃ s : Nat, (s : Int) = far f b per g t ∧ A s ∧ b s < f s := by
  have q0 : 0 ≤ (b t - f t) / g := Int.ediv_nonneg (by omega) (by omega)
  obtain ⟨k, hk⟩ : ∃ k : Nat, (k : Int) = (b t - f t) / g + 1 := ⟨((b t - f t) / g + 1).toNat, by omega⟩
  obtain ⟨e1, e2, e3⟩ := G.mul t k h
  refine ⟨t + k * per, ?_, e3.mpr ha, ?_⟩
  · unfold far
    rw [← hk]
    simp
  · rw [e1, e2, hk, Int.add_mul]
    have e := Int.mul_ediv_add_emod (b t - f t) g
    have r := Int.emod_lt_of_pos (b t - f t) g0
    rw [Int.mul_comm] at e
    omega
theorem Grow.far_le {f b : Nat → Int} {A : Nat → Prop} {st per : Nat} {g : Int} (G : Grow f b A st per g) (g0 : 0 < g) {t k : Nat} (h : st ≤ t) (hp : b (t + k * per) < f (t + k * per)) : far f b per g t ≤ ((t + k * per : Nat) : Int) := by
  obtain ⟨e1, e2, _⟩ := G.mul t k h
  rw [e1, e2] at hp
  have q : (b t - f t) / g < k := Int.ediv_lt_of_lt_mul g0 (by omega)
  have p0 : (0 : Int) ≤ per := by omega
  have := Int.mul_le_mul_of_nonneg_right (show (b t - f t) / g + 1 ≤ (k : Int) by omega) p0
  unfold far
  rw [Int.natCast_add, Int.natCast_mul]
  omega
/-- nothing early, and no growth: never -/
theorem Grow.never {f b : Nat → Int} {A : Nat → Prop} {st per : Nat} {g : Int} (G : Grow f b A st per g) (hn : ∀ t, t < st + per → ¬ (A t ∧ b t < f t)) (hz : g = 0 ∨ ∀ t, st ≤ t → t < st + per → ¬ A t) (s : Nat) : ¬ (A s ∧ b s < f s) := by
  rcases Nat.lt_or_ge s (st + per) with z | z
  · exact hn s z
  · obtain ⟨t, k, h1, h2, rfl⟩ := G.back s (by omega)
    obtain ⟨e1, e2, e3⟩ := G.mul t k h1
    rintro ⟨a, c⟩
    rcases hz with rfl | hz
    · refine hn t h2 ⟨e3.mp a, ?_⟩
      rw [e1, e2, Int.mul_zero] at c
      omega
    · exact hz t h1 h2 (e3.mp a)
/-- the least of the window's ticks is the first -/
theorem Grow.first {f b : Nat → Int} {A : Nat → Prop} {st per : Nat} {g : Int} (G : Grow f b A st per g) (g0 : 0 < g) (hn : ∀ t, t < st + per → ¬ (A t ∧ b t < f t)) {m : Int} (hm : ∃ t, st ≤ t ∧ t < st + per ∧ A t ∧ m = far f b per g t)
    (hl : ∀ t, st ≤ t → t < st + per → A t → m ≤ far f b per g t) : First (fun t => A t ∧ b t < f t) (.int m) := by
  obtain ⟨t, h1, h2, h3, rfl⟩ := hm
  have hb : f t ≤ b t := by
    rcases Int.lt_or_le (b t) (f t) with z | z
    · exact absurd ⟨h3, z⟩ (hn t h2)
    · exact z
  obtain ⟨s, e, a, c⟩ := G.far_ g0 h1 h3 hb
  refine .inr ⟨s, by rw [e], ⟨a, c⟩, fun u hu hp => ?_⟩
  rcases Nat.lt_or_ge u (st + per) with z | z
  · exact hn u z hp
  · obtain ⟨t', k, h1', h2', rfl⟩ := G.back u (by omega)
    have l1 := G.far_le g0 h1' hp.2
    have l2 := hl t' h1' h2' ((G.mul t' k h1').2.2.mp hp.1)
    omega
end TW
namespace TW
open PySem PySem.Spec PyProof.Rows L2
namespace HD
variable {d e : HD}
/-- after how many ticks the display repeats itself -/
def rnd (d : HD) : Nat := d.m.toNat / Nat.gcd d.m.toNat d.gain.toNat
def dper (d : HD) : Nat := d.per * d.rnd
theorem gcd_pos (h : d.ok) : 0 < Nat.gcd d.m.toNat d.gain.toNat := Nat.gcd_pos_of_pos_left _ (by have := h.m0; omega)
theorem rnd_pos (h : d.ok) : 0 < d.rnd := Nat.div_pos (Nat.le_of_dvd (by have := h.m0; omega) (Nat.gcd_dvd_left _ _)) (gcd_pos h)
theorem rnd_le (h : d.ok) : d.rnd ≤ d.m.toNat := Nat.div_le_self _ _
theorem dper_pos (h : d.ok) : 0 < d.dper := Nat.mul_pos (per_pos h) (rnd_pos h)
/-- the rounds that add a multiple of the modulus -/
theorem rnd_dvd (h : d.ok) (r : Nat) : (r * d.gain) % d.m = 0 ↔ d.rnd ∣ r := by
  have m0 := h.m0
  have g0 := gain_nonneg h
  obtain ⟨m, hm⟩ : ∃ m : Nat, d.m = m := ⟨d.m.toNat, by omega⟩
  obtain ⟨g, hg⟩ : ∃ g : Nat, d.gain = g := ⟨d.gain.toNat, by omega⟩
  have gp := gcd_pos h
  unfold rnd
  rw [hm, hg, Int.toNat_natCast, Int.toNat_natCast] at *
  have e1 : ((r : Int) * (g : Int)) % (m : Int) = 0 ↔ m ∣ r * g := by
    rw [show ((r : Int) * (g : Int)) % (m : Int) = ((r * g % m : Nat) : Int) by simp]
    constructor
    · intro z
      exact Nat.dvd_of_mod_eq_zero (by omega)
    · intro z
      have := Nat.mod_eq_zero_of_dvd z
      omega
  rw [e1]
  have a := Nat.div_mul_cancel (Nat.gcd_dvd_left m g)
  have b := Nat.div_mul_cancel (Nat.gcd_dvd_right m g)
  have co : Nat.Coprime (m / Nat.gcd m g) (g / Nat.gcd m g) := Nat.coprime_div_gcd_div_gcd gp
  constructor
  · intro z
    have z2 : m / Nat.gcd m g * Nat.gcd m g ∣ r * (g / Nat.gcd m g) * Nat.gcd m g := by
      rw [a, Nat.mul_assoc, b]
      exact z
    have z3 := Nat.dvd_of_mul_dvd_mul_right gp z2
    exact co.dvd_of_dvd_mul_right z3
  · rintro ⟨k, rfl⟩
    refine ⟨k * (g / Nat.gcd m g), ?_⟩
    calc m / Nat.gcd m g * k * g = m / Nat.gcd m g * k * (g / Nat.gcd m g * Nat.gcd m g) := by rw [b]
      _ = (m / Nat.gcd m g * Nat.gcd m g) * (k * (g / Nat.gcd m g)) := by
        simp only [Nat.mul_assoc, Nat.mul_comm, Nat.mul_left_comm]
      _ = m * (k * (g / Nat.gcd m g)) := by rw [a]
theorem C_rnd (h : d.ok) (t k : Nat) (ht : d.per ≤ t) (hk : d.dper ∣ k) : (d.C (t + k) - d.C t) % d.m = 0 ∧ ∃ j : Nat, k = j * d.per ∧ d.C (t + k) = d.C t + j * d.gain := by
  obtain ⟨q, rfl⟩ := hk
  have e : d.dper * q = (d.rnd * q) * d.per := by unfold dper; simp only [Nat.mul_assoc, Nat.mul_comm, Nat.mul_left_comm]
  rw [e, C_mul h t _ ht]
  refine ⟨?_, d.rnd * q, rfl, rfl⟩
  rw [show d.C t + ((d.rnd * q : Nat) : Int) * d.gain - d.C t = ((d.rnd * q : Nat) : Int) * d.gain by omega]
  exact (rnd_dvd h _).mpr ⟨q, rfl⟩
end HD
theorem shown_pos {d : HD} {t : Nat} (h : 0 < d.C (t + 1)) : Shown d t = .int ((d.C (t + 1) - 1) % d.m) := by
  unfold Shown
  rw [show ((t : Int) + 1).toNat = t + 1 by omega, if_pos h]
theorem shown_non {d : HD} {t : Nat} (h : ¬ 0 < d.C (t + 1)) : Shown d t = .non := by
  unfold Shown
  rw [show ((t : Int) + 1).toNat = t + 1 by omega, if_neg h]
theorem shown_scal {d e : HD} {s t : Int} : scal (Shown d s) (Shown e t) = true := by
  unfold Shown
  split <;> split <;> rfl
theorem shown_ne {d e : HD} {s t : Nat} (h : (0 < d.C (s + 1)) ≠ (0 < e.C (t + 1))) : Shown d s ≠ Shown e t := by
  by_cases a : 0 < d.C (s + 1) <;> by_cases b : 0 < e.C (t + 1)
  · exact absurd (propext ⟨fun _ => b, fun _ => a⟩) h
  · rw [shown_pos a, shown_non b]; exact fun z => by cases z
  · rw [shown_non a, shown_pos b]; exact fun z => by cases z
  · exact absurd (propext ⟨fun z => absurd z a, fun z => absurd z b⟩) h
/-- what is shown repeats itself, but for nothing -/
theorem shown_rep {d : HD} (h : d.ok) (t k : Nat) (ht : d.per ≤ t) (hk : d.dper ∣ k) (hc : 0 < d.C (t + 1)) : Shown d (t + k : Nat) = Shown d t := by
  obtain ⟨e, j, _, _⟩ := HD.C_rnd h (t + 1) k (by omega) hk
  have m1 := HD.C_mono h (show t + 1 ≤ t + k + 1 by omega)
  rw [shown_pos hc, shown_pos (t := t + k) (by omega)]
  rw [show t + 1 + k = t + k + 1 by omega] at e
  have m0 := h.m0
  refine congrArg V.int ?_
  have q := Int.mul_ediv_add_emod (d.C (t + k + 1) - d.C (t + 1)) d.m
  rw [show d.C (t + k + 1) - 1 = (d.C (t + 1) - 1) + d.m * ((d.C (t + k + 1) - d.C (t + 1)) / d.m) by omega, Int.add_mul_emod_self_left]
/-- two displays alike for long are alike for ever -/
theorem shown_all {d e : HD} (h1 : d.ok) (h2 : e.ok) (ha : ∀ t : Nat, t < max d.per e.per + Nat.lcm d.dper e.dper → Shown d t = Shown e t) : ∀ t : Nat, Shown d t = Shown e t := by
  have q1 : d.dper ∣ Nat.lcm d.dper e.dper := Nat.dvd_lcm_left _ _
  have q2 : e.dper ∣ Nat.lcm d.dper e.dper := Nat.dvd_lcm_right _ _
  have lp : 0 < Nat.lcm d.dper e.dper := Nat.lcm_pos (HD.dper_pos h1) (HD.dper_pos h2)
  have pp := HD.per_pos h1
  have pp2 := HD.per_pos h2
  intro t
  induction t using Nat.strongRecOn with
  | _ t ih =>
    by_cases c : t < max d.per e.per + Nat.lcm d.dper e.dper
    · exact ha t c
    · obtain ⟨s, rfl⟩ : ∃ s, t = s + Nat.lcm d.dper e.dper := ⟨t - Nat.lcm d.dper e.dper, by omega⟩
      have i1 := ih s (by omega)
      by_cases c1 : 0 < d.C (s + 1)
      · have c2 : 0 < e.C (s + 1) := by
          apply Classical.byContradiction
          intro z
          exact shown_ne (fun y => z (y.mp c1)) i1
        rw [shown_rep h1 s _ (by omega) q1 c1, shown_rep h2 s _ (by omega) q2 c2, i1]
      · have c2 : ¬ 0 < e.C (s + 1) := fun z => shown_ne (fun y => c1 (y.mpr z)) i1
        have n1 := HD.C_nonneg h1 (s + 1)
        have n2 := HD.C_nonneg h2 (s + 1)
        obtain ⟨r1, j1, f1, g1⟩ := HD.C_rnd h1 (s + 1) _ (by omega) q1
        obtain ⟨r2, j2, f2, g2⟩ := HD.C_rnd h2 (s + 1) _ (by omega) q2
        -- nothing was called before the window's end, too
        have z1 := HD.C_mono h1 (show max d.per e.per ≤ s + 1 by omega)
        have z2 := HD.C_mono h2 (show max d.per e.per ≤ s + 1 by omega)
        have y1 := HD.C_nonneg h1 (max d.per e.per)
        have y2 := HD.C_nonneg h2 (max d.per e.per)
        obtain ⟨w1, k1, u1, v1⟩ := HD.C_rnd h1 (max d.per e.per) _ (by omega) q1
        obtain ⟨w2, k2, u2, v2⟩ := HD.C_rnd h2 (max d.per e.per) _ (by omega) q2
        have i2 := ha (max d.per e.per + Nat.lcm d.dper e.dper - 1) (by omega)
        have ee : max d.per e.per + Nat.lcm d.dper e.dper - 1 + 1 = max d.per e.per + Nat.lcm d.dper e.dper := by omega
        have jp : 0 < j1 := by
          rcases Nat.eq_zero_or_pos j1 with z | z
          · rw [z] at f1; omega
          · exact z
        have jp2 : 0 < j2 := by
          rcases Nat.eq_zero_or_pos j2 with z | z
          · rw [z] at f2; omega
          · exact z
        have kj : k1 = j1 := Nat.eq_of_mul_eq_mul_right pp (u1.symm.trans f1)
        have kj2 : k2 = j2 := Nat.eq_of_mul_eq_mul_right pp2 (u2.symm.trans f2)
        subst kj kj2
        have a1 : d.C (s + 1 + Nat.lcm d.dper e.dper) = k1 * d.gain := by omega
        have a2 : e.C (s + 1 + Nat.lcm d.dper e.dper) = k2 * e.gain := by omega
        have b1 : d.C (max d.per e.per + Nat.lcm d.dper e.dper) = k1 * d.gain := by omega
        have b2 : e.C (max d.per e.per + Nat.lcm d.dper e.dper) = k2 * e.gain := by omega
        have m0 := h1.m0
        have m02 := h2.m0
        have p1 : (0 < (k1 : Int) * d.gain) = (0 < (k2 : Int) * e.gain) := by
          apply Classical.byContradiction
          intro z
          refine shown_ne ?_ i2
          rw [ee, b1, b2]
          exact z
        have st : ∀ (x m : Int), 2 ≤ m → x % m = 0 → (x - 1) % m = m - 1 := fun x m hm hx => by
          have q := Int.mul_ediv_add_emod x m
          rw [show x - 1 = (m - 1) + m * (x / m - 1) by rw [Int.mul_sub]; omega, Int.add_mul_emod_self_left]
          exact Int.emod_eq_of_lt (by omega) (by omega)
        by_cases p : 0 < (k1 : Int) * d.gain
        · have p' : 0 < (k2 : Int) * e.gain := p1.mp p
          have s1 : Shown d (max d.per e.per + Nat.lcm d.dper e.dper - 1 : Nat) = .int (d.m - 1) := by
            rw [shown_pos (by rw [ee, b1]; exact p), ee, b1, st _ _ m0 (by rw [← b1]; rw [show d.C (max d.per e.per + Nat.lcm d.dper e.dper) - d.C (max d.per e.per) = d.C (max d.per e.per + Nat.lcm d.dper e.dper) by omega] at w1; exact w1)]
          have s2 : Shown e (max d.per e.per + Nat.lcm d.dper e.dper - 1 : Nat) = .int (e.m - 1) := by
            rw [shown_pos (by rw [ee, b2]; exact p'), ee, b2, st _ _ m02 (by rw [← b2]; rw [show e.C (max d.per e.per + Nat.lcm d.dper e.dper) - e.C (max d.per e.per) = e.C (max d.per e.per + Nat.lcm d.dper e.dper) by omega] at w2; exact w2)]
          rw [s1, s2] at i2
          have mm : d.m - 1 = e.m - 1 := V.int.inj i2
          have e1 : s + 1 + Nat.lcm d.dper e.dper = s + Nat.lcm d.dper e.dper + 1 := by omega
          rw [e1] at a1 a2 r1 r2
          rw [shown_pos (t := s + Nat.lcm d.dper e.dper) (by rw [a1]; exact p), shown_pos (t := s + Nat.lcm d.dper e.dper) (by rw [a2]; exact p'), a1, a2, st _ _ m0 (by rw [← a1]; rw [show d.C (s + Nat.lcm d.dper e.dper + 1) - d.C (s + 1) = d.C (s + Nat.lcm d.dper e.dper + 1) by omega] at r1; exact r1), st _ _ m02 (by rw [← a2]; rw [show e.C (s + Nat.lcm d.dper e.dper + 1) - e.C (s + 1) = e.C (s + Nat.lcm d.dper e.dper + 1) by omega] at r2; exact r2), mm]
        · have p' : ¬ 0 < (k2 : Int) * e.gain := fun z => p (p1.mpr z)
          have e1 : s + 1 + Nat.lcm d.dper e.dper = s + Nat.lcm d.dper e.dper + 1 := by omega
          rw [e1] at a1 a2
          rw [shown_non (t := s + Nat.lcm d.dper e.dper) (by rw [a1]; exact p), shown_non (t := s + Nat.lcm d.dper e.dper) (by rw [a2]; exact p')]
/-! the ticks before m with p -/
def flt (p : Nat → Bool) : Nat → List Int
  | 0 => []
  | m + 1 => if p m = true then flt p m ++ [(m : Int)] else flt p m
theorem flt_zero {p : Nat → Bool} : (flt p 0).map V.int = [] := rfl
theorem flt_yes {p : Nat → Bool} {m : Nat} (h : p m = true) : (flt p (m + 1)).map V.int = (flt p m).map V.int ++ [V.int (0 + (m : Int))] := by
  rw [show flt p (m + 1) = flt p m ++ [(m : Int)] from if_pos h, List.map_append, Int.zero_add]
  rfl
theorem flt_no {p : Nat → Bool} {m : Nat} (h : ¬ p m = true) : (flt p (m + 1)).map V.int = (flt p m).map V.int := by
  rw [show flt p (m + 1) = flt p m from if_neg h]
theorem mem_flt {p : Nat → Bool} {m : Nat} {y : Int} : y ∈ flt p m ↔ ∃ t : Nat, t < m ∧ y = t ∧ p t = true := by
  induction m with
  | zero =>
    constructor
    · intro h; cases h
    · rintro ⟨t, ht, _⟩; omega
  | succ m ih =>
    unfold flt
    split
    · rename_i hp
      rw [List.mem_append, ih, List.mem_singleton]
      constructor
      · rintro (⟨t, ht, e, h⟩ | e)
        · exact ⟨t, by omega, e, h⟩
        · exact ⟨m, by omega, e, hp⟩
      · rintro ⟨t, ht, e, h⟩
        rcases Nat.lt_or_ge t m with z | z
        · exact .inl ⟨t, z, e, h⟩
        · exact .inr (by rw [e]; omega)
    · rename_i hp
      rw [ih]
      constructor
      · rintro ⟨t, ht, e, h⟩
        exact ⟨t, by omega, e, h⟩
      · rintro ⟨t, ht, e, h⟩
        rcases Nat.lt_or_ge t m with z | z
        · exact ⟨t, z, e, h⟩
        · have : t = m := by omega
          subst this
          exact absurd h hp
theorem flt_len {p : Nat → Bool} {m : Nat} : (flt p m).length ≤ m := by
  induction m with
  | zero => exact Nat.le_refl _
  | succ m ih =>
    unfold flt
    split
    · rw [List.length_append, List.length_singleton]; omega
    · omega
theorem flt_nil {p : Nat → Bool} {m : Nat} (h : flt p m = []) (t : Nat) (ht : t < m) : p t = false := by
  cases c : p t with
  | false => rfl
  | true =>
    have := mem_flt.mpr ⟨t, ht, rfl, c⟩
    rw [h] at this
    cases this
theorem flt_head {p : Nat → Bool} {m : Nat} (h : flt p m ≠ []) : ∃ t : Nat, t < m ∧ (flt p m).getD (Int.toNat 0) 0 = (t : Int) ∧ p t = true ∧ ∀ s, s < t → p s = false := by
  induction m with
  | zero => exact absurd rfl h
  | succ m ih =>
    by_cases e : flt p m = []
    · by_cases c : p m = true
      · refine ⟨m, Nat.lt_succ_self m, ?_, c, fun s hs => flt_nil e s hs⟩
        rw [show flt p (m + 1) = flt p m ++ [(m : Int)] from if_pos c, e]; rfl
      · rw [show flt p (m + 1) = flt p m from if_neg c] at h
        exact absurd e h
    · obtain ⟨t, a, b, c, d⟩ := ih e
      refine ⟨t, by omega, ?_, c, d⟩
      rw [← b]
      by_cases z : p m = true
      · rw [show flt p (m + 1) = flt p m ++ [(m : Int)] from if_pos z]
        cases q : flt p m with
        | nil => exact absurd q e
        | cons x r => rfl
      · rw [show flt p (m + 1) = flt p m from if_neg z]
theorem flt_pos {p : Nat → Bool} {m : Nat} (h : flt p m ≠ []) : (0 : Int) < (flt p m).length := by
  have := List.length_pos_iff.mpr h
  omega
/-! doubled tuples, tuples cut short -/
section
variable {K : PySem.W.Frag} {H : Hp} {Q : VK} {p : Addr} {xs ys : List V} {F : List MP} {L : List (Addr × HO)} {i : Int}
theorem x_repT2 (s : S F L H) (e : Ent F (tuF K p xs)) (hl : 0 < xs.length) (h2 : xs.length ≤ 1000) (k : ∀ r H1, S (tuF K r (xs ++ xs) :: F) L H1 → Q (.ref r) H1) : rMulA K (.ref p) (.int 2) H Q := by
  refine .inr (.inr ⟨p, 2, xs, rfl, rfl, s.ent e, (fun z => by rw [z] at hl; cases hl), by decide, by decide, h2, fun r hr => ?_⟩)
  have e2 : (List.replicate (Int.toNat 2) xs).flatten = xs ++ xs := by
    show (List.replicate 2 xs).flatten = _
    simp
  rw [e2]
  exact k r _ (((s.newF hr).put_ (tuF K r (xs ++ xs)) (Ent.tup List.mem_cons_self)).sub ((List.sublist_cons_self _ _).cons_cons _) (List.Sublist.refl _))
theorem cutV_last (hl : 0 < xs.length) : cutV xs none (some (-1)) = xs.dropLast := by
  unfold cutV
  have e1 : HT.sIx xs.length 0 none = 0 := rfl
  have e2 : HT.sIx xs.length xs.length (some (-1)) = xs.length - 1 := by
    unfold HT.sIx
    simp
    omega
  rw [e1, e2, List.drop_zero, Nat.sub_zero, List.dropLast_eq_take]
theorem x_slTl (s : S F L H) (e : Ent F (tuF K p xs)) (hl : 0 < xs.length) (q : ∀ r H1, S (tuF K r xs.dropLast :: F) L H1 → Q (.ref r) H1) : rSlAny K (.ref p) none (some (-1)) H Q :=
  x_slT s (s.ent e) (cutV_last hl) (by rw [List.length_dropLast]; omega) fun r H1 hS => q r H1 ((hS.put_ (tuF K r xs.dropLast) (Ent.tup List.mem_cons_self)).sub ((List.sublist_cons_self _ _).cons_cons _) (List.Sublist.refl _))
end
/-! enumerate of a list -/
def kEnL (K : PySem.W.Frag) (vs : List V) (R : It → Hp → Prop) (H : Hp) : Prop := ∃ a xs, vs = [.ref a] ∧ SqL K H a xs ∧ R (Ite K a) H
section
variable {K : PySem.W.Frag} {σ : Sl} {H : Hp} {Q : VK} {E : XK} {a p : Addr} {t : TA} {xs : List V} {g : TG} {ts : TS} {D : Ends} {F : List MP} {L : List (Addr × HO)} {x y : Addr} {d e : HD} {u v : V} {i j : Int}
theorem pi_enL {X : Cx} (K) {e : Expr} {ta : TA} {p pos tpos : Pos} {elts : List Expr} {kk : Nat} (hg : Gl X "enumerate") (hm : X.mg "enumerate" = none) (ha : PA X [e] ta) (hs : starEach [e] X.env = [(false, eval e X.env)] := by rfl) (hK : X.K = K := by rfl) :
    PI X (.Tuple elts kk tpos) (.Call (.Name "enumerate" p) [e] [] pos) (iEnum K ta) := by subst hK; exact pi_enum hg hm ha hs
theorem r_enl {R : It → Hp → Prop} (h : t σ H fun vs H1 => kEnL K vs R H1) : iEnum K t σ H R := h
theorem x_enl {R : It → Hp → Prop} (h : SqL K H a xs) (q : R (Ite K a) H) : kEnL K [.ref a] R H := ⟨a, xs, rfl, h, q⟩
theorem k_enL (xs : List V) (I : Nat → Sl → Hp → Prop) (h0 : I 0 σ H) (hl : ∀ i σ H, i ≤ xs.length → I i σ H → SqL K H a xs)
    (hs : ∀ i x σ H p, xs[i]? = some x → I i σ H → H p = none → g (.ref p) σ (upd H p (.tup [.int (i : Nat), x])) fun σ2 H2 => ts { nx := I (i + 1), rt := D.rt, ct := I (i + 1), bk := D.nx } σ2 H2) (hd : ∀ σ H, I xs.length σ H → D.nx σ H) : kFor (Ite K a) g ts D σ H := by
  refine ⟨fun i m σ H => m = xs.length - i ∧ i ≤ xs.length ∧ I i σ H, ⟨xs.length, by simp, Nat.zero_le _, h0⟩, ?_⟩
  rintro i m σ1 H1 ⟨rfl, hi, p⟩
  have q := hl i σ1 H1 hi p
  by_cases hlt : i < xs.length
  · refine .inr ⟨⟨xs, xs[i], q, List.getElem?_eq_getElem hlt⟩, I (i + 1), fun σ2 H2 p2 => ⟨xs.length - (i + 1), by omega, rfl, hlt, p2⟩, fun x H' y => ?_⟩
    obtain ⟨pq, x', rfl, hn, rfl, hx⟩ := y
    exact hs i x' σ1 H1 pq (hx xs q) p hn
  · have e : i = xs.length := by omega
    subst e
    exact .inl ⟨⟨xs, q, Nat.le_refl _⟩, hd σ1 H1 p⟩
theorem x_neV (h : scal u v = true) (q : Q (.bl (!decide (u = v))) H) : rNeA K u v H Q := .inl ⟨h, q⟩
theorem x_eqV (h : scal u v = true) (q : Q (.bl (decide (u = v))) H) : rEqA K u v H Q := .inl ⟨h, q⟩
theorem x_lenLr {g : Nat → V} {n : Nat} (h : SqL K H p ((List.range n).map g)) (q : Q (.int n) H) : rLenA K [.ref p] H Q := x_lenL h (by rw [List.length_map, List.length_range]; exact q)
/-! promises -/
abbrev Shs (d : HD) (n : Nat) : List V := (List.range n).map fun (t : Nat) => Shown d t
theorem cut_shs {d : HD} {n : Nat} {r : Int} (h : 0 ≤ r) : cutV (Shs d n) none (some r) = Shs d (min r.toNat n) := by
  unfold cutV
  have e1 : HT.sIx (Shs d n).length 0 none = 0 := rfl
  have e2 : HT.sIx (Shs d n).length (Shs d n).length (some r) = min r.toNat n := by
    unfold HT.sIx
    rw [List.length_map, List.length_range]
    simp only
    rw [if_neg (by omega)]
  rw [e1, e2, List.drop_zero, Nat.sub_zero, ← List.map_take, List.take_range]
  congr 2
  omega
theorem x_slShs {n : Nat} {r : Int} (s : S F L H) (hq : SqL K H p (Shs d n)) (h : 0 ≤ r) (k : ∀ l H1, S F ((l, .lst (Shs d (min r.toNat n))) :: L) H1 → Q (.ref l) H1) : rSlAny K (.ref p) none (some r) H Q := .inr ⟨p, _, rfl, hq, fun l hl => by rw [cut_shs h]; exact k l _ (s.new hl)⟩
def spDper (K : PySem.W.Frag) : Sp := fun vs H Q _ => ∃ (F : List MP) (L : List (Addr × HO)) (x : Addr) (d : HD), vs = [.ref x] ∧ d.ok ∧ hallP K x d ∈ F ∧ S F L H ∧ ∀ H', S F L H' → Q (.int d.dper) H'
def spDiff (K : PySem.W.Frag) : Sp := fun vs H Q _ => ∃ (F : List MP) (L : List (Addr × HO)) (x y : Addr) (d e : HD), vs = [.ref x, .ref y] ∧ d.ok ∧ e.ok ∧ hallP K x d ∈ F ∧ hallP K y e ∈ F ∧ max d.per e.per + Nat.lcm d.dper e.dper ≤ 20000 ∧ S F L H ∧
  ((∀ t : Nat, Shown d t = Shown e t) → ∀ H', S F L H' → Q .non H') ∧ ∀ (t : Nat) p H', t < 20000 → Shown d t ≠ Shown e t → (∀ s : Nat, s < t → Shown d s = Shown e s) → S (tuF K p [.int t, Shown d t, Shown e t] :: F) L H' → Q (.ref p) H'
/-- the first entry of a log that is wrong -/
def ErrAt (d : HD) (zs : List V) (v : V) : Prop := (v = .non ∧ ∀ (i : Nat) x, zs[i]? = some x → x = Shown d i) ∨ ∃ (i : Nat) (x : V), v = .int i ∧ zs[i]? = some x ∧ x ≠ Shown d i ∧ ∀ (j : Nat) y, j < i → zs[j]? = some y → y = Shown d j
theorem ErrAt.uniq {d : HD} {zs : List V} {v w : V} (h1 : ErrAt d zs v) (h2 : ErrAt d zs w) : v = w := by
  rcases h1 with ⟨rfl, a⟩ | ⟨i, x, rfl, a, b, c⟩
  · rcases h2 with ⟨rfl, _⟩ | ⟨j, y, _, a2, b2, _⟩
    · rfl
    · exact absurd (a j y a2) b2
  · rcases h2 with ⟨_, a2⟩ | ⟨j, y, rfl, a2, b2, c2⟩
    · exact absurd (a2 i x a) b
    · rcases Nat.lt_trichotomy i j with z | z | z
      · exact absurd (c2 i x z a) b
      · rw [z]
      · exact absurd (c j y z a2) b2
def NI (v : V) : Prop := v = .non ∨ ∃ i, v = .int i
theorem ni_shown {d : HD} {t : Int} : NI (Shown d t) := by
  unfold Shown
  split
  · exact .inr ⟨_, rfl⟩
  · exact .inl rfl
theorem scal_ni {u v : V} (h1 : NI u) (h2 : NI v) : scal u v = true := by
  rcases h1 with rfl | ⟨i, rfl⟩ <;> rcases h2 with rfl | ⟨j, rfl⟩ <;> rfl
def spErr (K : PySem.W.Frag) : Sp := fun vs H Q _ => ∃ (F : List MP) (L : List (Addr × HO)) (x l : Addr) (d : HD) (zs : List V), vs = [.ref x, .ref l] ∧ d.ok ∧ hallP K x d ∈ F ∧ (∀ z ∈ zs, NI z) ∧ (∀ H', S F L H' → SqL K H' l zs) ∧ S F L H ∧ ∀ v, ErrAt d zs v → ∀ H', S F L H' → Q v H'
/-- the ticks that a watcher tells apart -/
def HD.dis (d : HD) : Nat := d.per + d.dper
def spDis (K : PySem.W.Frag) : Sp := fun vs H Q _ => ∃ (F : List MP) (L : List (Addr × HO)) (p : Addr) (d : HD), vs = [.ref p] ∧ d.ok ∧ partsP K p d ∈ F ∧ S F L H ∧ ∀ H', S F L H' → Q (.int d.dis) H'
def spShs (K : PySem.W.Frag) : Sp := fun vs H Q _ => ∃ (F : List MP) (L : List (Addr × HO)) (p : Addr) (d : HD) (n : Int), vs = [.ref p, .int n] ∧ d.ok ∧ partsP K p d ∈ F ∧ 0 ≤ n ∧ n ≤ 900000 ∧ S F L H ∧ ∀ l H', S F ((l, .lst (Shs d n.toNat)) :: L) H' → Q (.ref l) H'
theorem c_dper (s : S F L H) (m : hallP K x d ∈ F) (ok : d.ok) (k : ∀ H', S F L H' → Q (.int d.dper) H') : spDper K [.ref x] H Q E := ⟨F, L, x, d, rfl, ok, m, s, k⟩
theorem c_diff (s : S F L H) (m : hallP K x d ∈ F) (m2 : hallP K y e ∈ F) (ok : d.ok) (ok2 : e.ok) (hb : max d.per e.per + Nat.lcm d.dper e.dper ≤ 20000) (k : (∀ t : Nat, Shown d t = Shown e t) → ∀ H', S F L H' → Q .non H')
    (k2 : ∀ (t : Nat) p H', t < 20000 → Shown d t ≠ Shown e t → (∀ s : Nat, s < t → Shown d s = Shown e s) → S (tuF K p [.int t, Shown d t, Shown e t] :: F) L H' → Q (.ref p) H') : spDiff K [.ref x, .ref y] H Q E := ⟨F, L, x, y, d, e, rfl, ok, ok2, m, m2, hb, s, k, k2⟩
theorem c_err {l : Addr} {zs : List V} (s : S F L H) (m : hallP K x d ∈ F) (ok : d.ok) (hz : ∀ z ∈ zs, NI z) (hq : ∀ H', S F L H' → SqL K H' l zs) (k : ∀ v, ErrAt d zs v → ∀ H', S F L H' → Q v H') : spErr K [.ref x, .ref l] H Q E := ⟨F, L, x, l, d, zs, rfl, ok, m, hz, hq, s, k⟩
theorem c_dis (s : S F L H) (m : partsP K p d ∈ F) (ok : d.ok) (k : ∀ H', S F L H' → Q (.int d.dis) H') : spDis K [.ref p] H Q E := ⟨F, L, p, d, rfl, ok, m, s, k⟩
theorem c_shs (s : S F L H) (m : partsP K p d ∈ F) (ok : d.ok) (h0 : 0 ≤ i) (h1 : i ≤ 900000) (k : ∀ l H', S F ((l, .lst (Shs d i.toNat)) :: L) H' → Q (.ref l) H') : spShs K [.ref p, .int i] H Q E := ⟨F, L, p, d, i, rfl, ok, m, h0, h1, s, k⟩
theorem c_gcdI (s : S F L H) (h0 : 0 ≤ i) (h1 : 0 ≤ j) (k : ∀ H', S F L H' → Q (.int (Nat.gcd i.toNat j.toNat)) H') : spGcd [.int i, .int j] H Q E := by
  obtain ⟨a, rfl⟩ : ∃ a : Nat, i = a := ⟨i.toNat, by omega⟩
  obtain ⟨b, rfl⟩ : ∃ b : Nat, j = b := ⟨j.toNat, by omega⟩
  exact ⟨F, L, a, b, rfl, s, fun H' z => k H' z⟩
end
end TW
namespace TW
open PySem PySem.Spec PyProof.Rows L2
/-! ### changed halls -/
theorem x_neTe {K : PySem.W.Frag} {H : Hp} {Q : VK} {p q : Addr} (xs : List Int) (h1 : SqT K H p (xs.map V.int)) (h2 : SqT K H q (xs.map V.int)) (k : Q (.bl false) H) : rNeA K (.ref p) (.ref q) H Q := x_neTI h1 h2 (by rw [decide_eq_true rfl]; exact k)
theorem x_eqTe {K : PySem.W.Frag} {H : Hp} {Q : VK} {p q : Addr} (xs : List Int) (h1 : SqT K H p (xs.map V.int)) (h2 : SqT K H q (xs.map V.int)) (k : Q (.bl true) H) : rEqA K (.ref p) (.ref q) H Q := x_eqTI h1 h2 (by rw [decide_eq_true rfl]; exact k)
def late1 (l : Int) : HD := ⟨3, [1, 0, 2], [1, 2, 0], l⟩
def late2 : HD := ⟨3, [1, 2, 0], [3, 0, 0], 0⟩
theorem ok_late1 {l : Int} (h0 : 0 ≤ l) (h1 : l ≤ 99) : (late1 l).ok :=
  ⟨by show (2 : Int) ≤ 3; decide, by show (3 : Int) ≤ 10000; decide, by show 0 < 3; decide, by show 3 ≤ 12; decide, by show ∀ x ∈ ([1, 0, 2] : List Int), 0 ≤ x ∧ x ≤ 9; decide, by show 0 < 3; decide, by show 3 ≤ 12; decide, by show ∀ x ∈ ([1, 2, 0] : List Int), 0 ≤ x ∧ x ≤ 9; decide, h0, h1⟩
theorem ok_late2 : late2.ok :=
  ⟨by show (2 : Int) ≤ 3; decide, by show (3 : Int) ≤ 10000; decide, by show 0 < 3; decide, by show 3 ≤ 12; decide, by show ∀ x ∈ ([1, 2, 0] : List Int), 0 ≤ x ∧ x ≤ 9; decide, by show 0 < 3; decide, by show 3 ≤ 12; decide, by show ∀ x ∈ ([3, 0, 0] : List Int), 0 ≤ x ∧ x ≤ 9; decide, by show (0 : Int) ≤ 0; decide, by show (0 : Int) ≤ 99; decide⟩
theorem dper_le {d : HD} (h : d.ok) {p m : Nat} (h1 : d.per ≤ p) (h2 : d.m ≤ m) : d.dper ≤ p * m := by
  have := HD.rnd_le h
  exact Nat.mul_le_mul h1 (by omega)
theorem lcm_le {a b x y : Nat} (ha : 0 < a) (hb : 0 < b) (h1 : a ≤ x) (h2 : b ≤ y) : Nat.lcm a b ≤ x * y :=
  Nat.le_trans (Nat.le_of_dvd (Nat.mul_pos ha hb) (Nat.lcm_dvd_mul a b)) (Nat.mul_le_mul h1 h2)
theorem late_shown {l : Int} : Shown (late1 l) (0 : Nat) = Shown late2 (0 : Nat) ∧ Shown (late1 l) (1 : Nat) = Shown late2 (1 : Nat) ∧ Shown (late1 l) (2 : Nat) = Shown late2 (2 : Nat) ∧ Shown (late1 l) (3 : Nat) = .int 1 ∧ Shown late2 (3 : Nat) = .int 0 := by
  have a1 : (late1 l).C 1 = 1 := by simp [HD.C, HD.T, HD.a, HD.c, late1] <;> decide
  have a2 : (late1 l).C 2 = 1 := by simp [HD.C, HD.T, HD.a, HD.c, late1] <;> decide
  have a3 : (late1 l).C 3 = 1 := by simp [HD.C, HD.T, HD.a, HD.c, late1] <;> decide
  have a4 : (late1 l).C 4 = 2 := by simp [HD.C, HD.T, HD.a, HD.c, late1] <;> decide
  have b1 : late2.C 1 = 1 := by simp [HD.C, HD.T, HD.a, HD.c, late2] <;> decide
  have b2 : late2.C 2 = 1 := by simp [HD.C, HD.T, HD.a, HD.c, late2] <;> decide
  have b3 : late2.C 3 = 1 := by simp [HD.C, HD.T, HD.a, HD.c, late2] <;> decide
  have b4 : late2.C 4 = 4 := by simp [HD.C, HD.T, HD.a, HD.c, late2] <;> decide
  refine ⟨?_, ?_, ?_, ?_, ?_⟩
  · rw [shown_pos (by rw [a1]; decide), shown_pos (by rw [b1]; decide), a1, b1]; rfl
  · rw [shown_pos (by rw [a2]; decide), shown_pos (by rw [b2]; decide), a2, b2]; rfl
  · rw [shown_pos (by rw [a3]; decide), shown_pos (by rw [b3]; decide), a3, b3]; rfl
  · rw [shown_pos (by rw [a4]; decide), a4]; rfl
  · rw [shown_pos (by rw [b4]; decide), b4]; rfl
theorem late_first {l : Int} {t : Nat} (h : Shown (late1 l) t ≠ Shown late2 t) (hs : ∀ s : Nat, s < t → Shown (late1 l) s = Shown late2 s) : t = 3 := by
  obtain ⟨a, b, c, e, f⟩ := late_shown (l := l)
  rcases Nat.lt_or_ge 3 t with z | z
  · have := hs 3 z
    rw [e, f] at this
    cases this
  · rcases (show t = 0 ∨ t = 1 ∨ t = 2 ∨ t = 3 by omega) with rfl | rfl | rfl | rfl
    · exact absurd a h
    · exact absurd b h
    · exact absurd c h
    · rfl
theorem late_ne {l : Int} : ¬ Shown (late1 l) (3 : Nat) = Shown late2 (3 : Nat) := by
  obtain ⟨_, _, _, e, f⟩ := late_shown (l := l)
  rw [e, f]
  exact fun z => by cases z
theorem late_bd {l : Int} : max (late1 l).per late2.per + Nat.lcm (late1 l).dper late2.dper ≤ 20000 ∧ max late2.per (late1 l).per + Nat.lcm late2.dper (late1 l).dper ≤ 20000 := by
  have e1 : (late1 l).per = 3 := by show Nat.lcm 3 3 = 3; decide
  have e2 : late2.per = 3 := by show Nat.lcm 3 3 = 3; decide
  have a : (late1 l).dper ≤ 9 := by
    have : (late1 l).rnd ≤ 3 := Nat.div_le_self _ _
    show (late1 l).per * _ ≤ 9
    rw [e1]; omega
  have b : late2.dper ≤ 9 := by
    have : late2.rnd ≤ 3 := Nat.div_le_self _ _
    show late2.per * _ ≤ 9
    rw [e2]; omega
  have c : ∀ x y : Nat, x ≤ 9 → y ≤ 9 → Nat.lcm x y ≤ 81 := fun x y hx hy => by
    unfold Nat.lcm
    exact Nat.le_trans (Nat.div_le_self _ _) (Nat.mul_le_mul hx hy)
  have := c _ _ a b
  have := c _ _ b a
  omega
theorem shs_get {d : HD} {n i : Nat} {x : V} (h : (Shs d n)[i]? = some x) : i < n ∧ x = Shown d i := by
  have h1 : i < (Shs d n).length := (List.getElem?_eq_some_iff.mp h).1
  rw [List.length_map, List.length_range] at h1
  refine ⟨h1, ?_⟩
  rw [List.getElem?_map, List.getElem?_range h1] at h
  exact (Option.some.inj h).symm
theorem shs_at {d : HD} {n i : Nat} (h : i < n) : (Shs d n)[i]? = some (Shown d i) := by
  rw [List.getElem?_map, List.getElem?_range h]
  rfl
theorem shs_ni {d : HD} {n : Nat} : ∀ z ∈ Shs d n, NI z := fun z hz => by
  obtain ⟨i, _, rfl⟩ := List.mem_map.mp hz
  exact ni_shown
/-- what the law of differences expects -/
def expP (K : PySem.W.Frag) (v : V) (d e : HD) : MP :=
  ⟨fun E => (v = .non ∧ ∀ t : Nat, Shown d t = Shown e t) ∨ ∃ (q : Addr) (t : Nat), v = .ref q ∧ Shown d t ≠ Shown e t ∧ (∀ s : Nat, s < t → Shown d s = Shown e s) ∧ SqT K E q [.int t, Shown d t, Shown e t],
   fun _ _ z h => by
    rcases h with h | ⟨q, t, a, b, c, s⟩
    · exact .inl h
    · exact .inr ⟨q, t, a, b, c, sqT_mono z s⟩⟩
theorem eq2_ni {K : PySem.W.Frag} {H : Hp} {n : Nat} {v : V} (h : NI v) : Eq2 K H n v v := by
  rcases h with rfl | ⟨i, rfl⟩
  · exact .non
  · exact .int rfl
namespace HD
variable {d : HD}
theorem ok_lt (h : d.ok) {k : Int} (k0 : 0 ≤ k) (k1 : k ≤ 99) : HD.ok { d with lt := k } := ⟨h.m0, h.m1, h.t0, h.t1, h.t2, h.c0, h.c1, h.c2, k0, k1⟩
theorem ok_m (h : d.ok) {k : Int} (k0 : 2 ≤ k) (k1 : k ≤ 10000) : HD.ok { d with m := k } := ⟨k0, k1, h.t0, h.t1, h.t2, h.c0, h.c1, h.c2, h.l0, h.l1⟩
/-- both patterns written twice -/
def dbl (d : HD) : HD := { d with tk := d.tk ++ d.tk, cl := d.cl ++ d.cl }
theorem ok_dbl (h : d.ok) (h1 : d.tk.length ≤ 6) (h2 : d.cl.length ≤ 6) : d.dbl.ok := by
  refine ⟨h.m0, h.m1, ?_, ?_, ?_, ?_, ?_, ?_, h.l0, h.l1⟩
  · show 0 < (d.tk ++ d.tk).length
    have := h.t0
    rw [List.length_append]; omega
  · show (d.tk ++ d.tk).length ≤ 12
    rw [List.length_append]; omega
  · intro x hx
    rcases List.mem_append.mp hx with hx | hx <;> exact h.t2 x hx
  · show 0 < (d.cl ++ d.cl).length
    have := h.c0
    rw [List.length_append]; omega
  · show (d.cl ++ d.cl).length ≤ 12
    rw [List.length_append]; omega
  · intro x hx
    rcases List.mem_append.mp hx with hx | hx <;> exact h.c2 x hx
theorem per_dbl : d.dbl.per = 2 * d.per := by
  show Nat.lcm (d.tk ++ d.tk).length (d.cl ++ d.cl).length = 2 * Nat.lcm _ _
  rw [List.length_append, List.length_append, show d.tk.length + d.tk.length = 2 * d.tk.length by omega, show d.cl.length + d.cl.length = 2 * d.cl.length by omega, Nat.lcm_mul_left]
/-- the calls written twice, the last one changed -/
def wrt (d : HD) (r : Int) : HD := { d with cl := d.cl ++ d.cl.dropLast ++ [r] }
theorem ok_wrt (h : d.ok) {r : Int} (r0 : 0 ≤ r) (r1 : r ≤ 9) (h2 : d.cl.length ≤ 6) : (d.wrt r).ok := by
  refine ⟨h.m0, h.m1, h.t0, h.t1, h.t2, ?_, ?_, ?_, h.l0, h.l1⟩
  · show 0 < (d.cl ++ d.cl.dropLast ++ [r]).length
    rw [List.length_append, List.length_singleton]; omega
  · show (d.cl ++ d.cl.dropLast ++ [r]).length ≤ 12
    have := h.c0
    rw [List.length_append, List.length_append, List.length_dropLast, List.length_singleton]; omega
  · intro x hx
    rcases List.mem_append.mp hx with hx | hx
    · rcases List.mem_append.mp hx with hx | hx
      · exact h.c2 x hx
      · exact h.c2 x ((List.dropLast_sublist _).subset hx)
    · rw [List.mem_singleton.mp hx]; exact ⟨r0, r1⟩
theorem len_wrt (h : d.ok) {r : Int} : (d.wrt r).cl.length = 2 * d.cl.length := by
  show (d.cl ++ d.cl.dropLast ++ [r]).length = _
  have := h.c0
  rw [List.length_append, List.length_append, List.length_dropLast, List.length_singleton]; omega
theorem dvd_wrt (h : d.ok) {r : Int} : d.per ∣ (d.wrt r).per := by
  unfold per
  rw [len_wrt h]
  exact Nat.lcm_dvd (Nat.dvd_lcm_left _ _) (Nat.dvd_trans ⟨2, by omega⟩ (Nat.dvd_lcm_right _ _))
theorem per_wrt (h : d.ok) (h1 : d.tk.length ≤ 3) (h2 : d.cl.length ≤ 3) {r : Int} : (d.wrt r).per ≤ 12 := by
  have a := h.t0
  have b := h.c0
  unfold per
  rw [len_wrt h]
  show Nat.lcm d.tk.length _ ≤ 12
  rcases (show d.tk.length = 1 ∨ d.tk.length = 2 ∨ d.tk.length = 3 by omega) with e | e | e <;> rcases (show d.cl.length = 1 ∨ d.cl.length = 2 ∨ d.cl.length = 3 by omega) with f | f | f <;> rw [e, f] <;> decide
end HD
/-- what two halls' lengths may be, for the law of differences -/
def Near (d e : HD) : Prop := (e.per ≤ 6 ∧ e.dper ≤ 60) ∨ (d.per ∣ e.per ∧ e.per ≤ 12 ∧ e.dper ≤ 120)
theorem near_bd {d e : HD} (h1 : d.ok) (h2 : e.ok) (p6 : d.per ≤ 6) (m10 : d.m ≤ 10) (n : Near d e) : max d.per e.per + Nat.lcm d.dper e.dper ≤ 6000 ∧ max d.per e.per + Nat.lcm d.dper e.dper ≤ d.dis * e.dis + 9 ∧ d.dis ≤ 66 ∧ e.dis ≤ 132 := by
  have a0 := HD.dper_pos h1
  have b0 := HD.dper_pos h2
  have p0 := HD.per_pos h1
  have q0 := HD.per_pos h2
  have a1 := dper_le h1 p6 (m := 10) (by omega)
  have l1 := Nat.le_of_dvd (Nat.mul_pos a0 b0) (Nat.lcm_dvd_mul d.dper e.dper)
  have big : max d.per e.per + Nat.lcm d.dper e.dper ≤ d.dis * e.dis + 9 := by
    have x : d.dis * e.dis = d.per * e.per + d.per * e.dper + d.dper * e.per + d.dper * e.dper := by
      unfold HD.dis
      rw [Nat.add_mul, Nat.mul_add, Nat.mul_add]; omega
    have y1 := Nat.mul_le_mul_right e.per p0
    have y2 := Nat.mul_le_mul_left d.per q0
    have y3 : d.per ≤ d.per * e.per := Nat.le_mul_of_pos_right _ q0
    have y4 : e.per ≤ d.per * e.per := Nat.le_mul_of_pos_left _ p0
    omega
  rcases n with ⟨n1, n2⟩ | ⟨n1, n2, n3⟩
  · have := Nat.mul_le_mul a1 n2
    exact ⟨by omega, big, by unfold HD.dis; omega, by unfold HD.dis; omega⟩
  · have l2 : Nat.lcm d.dper e.dper ∣ d.rnd * e.dper := by
      refine Nat.lcm_dvd ?_ ⟨d.rnd, Nat.mul_comm _ _⟩
      obtain ⟨k, hk⟩ := n1
      refine ⟨k * e.rnd, ?_⟩
      unfold HD.dper
      rw [hk]
      simp only [Nat.mul_assoc, Nat.mul_comm, Nat.mul_left_comm]
    have l3 := Nat.le_of_dvd (Nat.mul_pos (HD.rnd_pos h1) b0) l2
    have r := HD.rnd_le h1
    have := Nat.mul_le_mul (show d.rnd ≤ 10 by omega) n3
    exact ⟨by omega, big, by unfold HD.dis; omega, by unfold HD.dis; omega⟩
end TW
namespace TW
open PySem PySem.Spec PyProof.Rows L2
/-! ### holders and mistakes: what the defs promise -/
def spDigits (K : PySem.W.Frag) : Sp := fun vs H Q _ => ∃ (F : List MP) (L : List (Addr × HO)) (x : Addr) (d : HD) (n : Int), vs = [.ref x, .int n] ∧ d.ok ∧ hallP K x d ∈ F ∧ 0 ≤ n ∧ n < d.m ∧ S F L H ∧ ∀ H', S F L H' → Q .non H'
def spBetw (K : PySem.W.Frag) : Sp := fun vs H Q _ => ∃ (F : List MP) (L : List (Addr × HO)) (x : Addr) (d : HD) (dg f e : Int), vs = [.ref x, .int dg, .int f, .int e] ∧ d.ok ∧ hallP K x d ∈ F ∧ -4000000000000000000 ≤ f ∧ f ≤ 4000000000000000000 ∧ -4000000000000000000 ≤ e ∧ e ≤ 4000000000000000000 ∧
  apn (f + (dg - f) % d.m) e d.m ≤ 16777216 ∧ S F L H ∧ ∀ l H', S F ((l, .lst ((btw d.m dg f e).map V.int)) :: L) H' → Q (.ref l) H'
def spHold (K : PySem.W.Frag) : Sp := fun vs H Q _ => ∃ (F : List MP) (L : List (Addr × HO)) (x : Addr) (d : HD) (t n : Int), vs = [.ref x, .int t, .int n] ∧ d.ok ∧ hallP K x d ∈ F ∧ 0 ≤ t ∧ t ≤ 400000000000000000 ∧ 0 ≤ n ∧ n < d.m ∧ d.O t.toNat / d.m ≤ 1000 ∧ S F L H ∧
  ∀ l H', S F ((l, .lst ((btw d.m n (d.C (t - d.lt).toNat) (d.T (t + 1).toNat)).map V.int)) :: L) H' → Q (.ref l) H'
/-- how many the mistakes of a tick may be -/
def MisOk (d : HD) (t : Nat) : Prop := (d.T (t + 1) - d.C (t + 1)) / d.m * (d.C (t + 1) - d.C t) ≤ 1000
def spMist (K : PySem.W.Frag) : Sp := fun vs H Q _ => ∃ (F : List MP) (L : List (Addr × HO)) (x : Addr) (d : HD) (t : Int), vs = [.ref x, .int t] ∧ d.ok ∧ hallP K x d ∈ F ∧ 0 ≤ t ∧ t ≤ 400000000000000000 ∧ MisOk d t.toNat ∧ S F L H ∧
  ∀ l ws H', ws.length ≤ 20000 → S (prP K ws (MstL d t.toNat) :: F) ((l, .lst ws) :: L) H' → Q (.ref l) H'
def spSpare (K : PySem.W.Frag) : Sp := fun vs H Q _ => ∃ (F : List MP) (L : List (Addr × HO)) (x : Addr) (d : HD) (t : Int), vs = [.ref x, .int t] ∧ d.ok ∧ hallP K x d ∈ F ∧ 0 ≤ t ∧ S F L H ∧ ∀ v, (0 < v ↔ Mis d t.toNat) → ∀ H', S F L H' → Q (.int v) H'
def spFirstM (K : PySem.W.Frag) : Sp := fun vs H Q _ => ∃ (F : List MP) (L : List (Addr × HO)) (x : Addr) (d : HD), vs = [.ref x] ∧ d.ok ∧ hallP K x d ∈ F ∧ S F L H ∧ ∀ v, First (Mis d) v → ∀ H', S F L H' → Q v H'
section
variable {K : PySem.W.Frag} {H : Hp} {Q : VK} {E : XK} {F : List MP} {L : List (Addr × HO)} {x : Addr} {d : HD} {t n dg f e : Int}
theorem c_digits (s : S F L H) (m : hallP K x d ∈ F) (ok : d.ok) (n0 : 0 ≤ n) (n1 : n < d.m) (k : ∀ H', S F L H' → Q .non H') : spDigits K [.ref x, .int n] H Q E := ⟨F, L, x, d, n, rfl, ok, m, n0, n1, s, k⟩
theorem c_betw (s : S F L H) (m : hallP K x d ∈ F) (ok : d.ok) (f0 : -4000000000000000000 ≤ f) (f1 : f ≤ 4000000000000000000) (e0 : -4000000000000000000 ≤ e) (e1 : e ≤ 4000000000000000000) (hn : apn (f + (dg - f) % d.m) e d.m ≤ 16777216)
    (k : ∀ l H', S F ((l, .lst ((btw d.m dg f e).map V.int)) :: L) H' → Q (.ref l) H') : spBetw K [.ref x, .int dg, .int f, .int e] H Q E := ⟨F, L, x, d, dg, f, e, rfl, ok, m, f0, f1, e0, e1, hn, s, k⟩
theorem c_hold (s : S F L H) (m : hallP K x d ∈ F) (ok : d.ok) (t0 : 0 ≤ t) (t1 : t ≤ 400000000000000000) (n0 : 0 ≤ n) (n1 : n < d.m) (hn : d.O t.toNat / d.m ≤ 1000) (k : ∀ l H', S F ((l, .lst ((btw d.m n (d.C (t - d.lt).toNat) (d.T (t + 1).toNat)).map V.int)) :: L) H' → Q (.ref l) H') :
    spHold K [.ref x, .int t, .int n] H Q E := ⟨F, L, x, d, t, n, rfl, ok, m, t0, t1, n0, n1, hn, s, k⟩
theorem c_mist (s : S F L H) (m : hallP K x d ∈ F) (ok : d.ok) (t0 : 0 ≤ t) (t1 : t ≤ 400000000000000000) (hn : MisOk d t.toNat) (k : ∀ l ws H', ws.length ≤ 20000 → S (prP K ws (MstL d t.toNat) :: F) ((l, .lst ws) :: L) H' → Q (.ref l) H') :
    spMist K [.ref x, .int t] H Q E := ⟨F, L, x, d, t, rfl, ok, m, t0, t1, hn, s, k⟩
theorem c_spare (s : S F L H) (m : hallP K x d ∈ F) (ok : d.ok) (t0 : 0 ≤ t) (k : ∀ v, (0 < v ↔ Mis d t.toNat) → ∀ H', S F L H' → Q (.int v) H') : spSpare K [.ref x, .int t] H Q E := ⟨F, L, x, d, t, rfl, ok, m, t0, s, k⟩
theorem c_firstM (s : S F L H) (m : hallP K x d ∈ F) (ok : d.ok) (k : ∀ v, First (Mis d) v → ∀ H', S F L H' → Q v H') : spFirstM K [.ref x] H Q E := ⟨F, L, x, d, rfl, ok, m, s, k⟩
theorem apn_le {m dg f e : Int} (hm : 0 < m) {n : Nat} (h : (e - f) / m ≤ n) : apn (f + (dg - f) % m) e m ≤ n + 1 := by
  have := btw_len (dg := dg) (f := f) (e := e) hm
  unfold btw at this
  rw [ap_len] at this
  omega
theorem btw_length {m dg f e : Int} : (btw m dg f e).length = apn (f + (dg - f) % m) e m := ap_len
def kPar3 (n m l : Nat) (vs : List V) (σ : Sl) (Q : Sl → Hp → Prop) (H : Hp) : Prop := ∃ u v w, vs = [u, v, w] ∧ Q (((σ.set n (some u)).set m (some v)).set l (some w)) H
instance {n m l : Nat} {ta : TA} {D : Ends} {σ : Sl} : Step (tPar3 n m l ta D σ H) (ta σ H fun vs H1 => kPar3 n m l vs σ D.nx H1) := ⟨fun h => h⟩
instance {n m l : Nat} {u v w : V} {σ σ1 σ2 σ3 : Sl} {Q : Sl → Hp → Prop} [h1 : SetA u n σ σ1] [h2 : SetA v m σ1 σ2] [h3 : SetA w l σ2 σ3] : Step (kPar3 n m l [u, v, w] σ Q H) (Q σ3 H) := ⟨fun q => ⟨u, v, w, rfl, by rw [h1.set.eq, h2.set.eq, h3.set.eq]; exact q⟩⟩
theorem misOk_le {a c : Int} (h0 : 0 ≤ a) (h1 : 1 ≤ c) (h : a * c ≤ 1000) : a ≤ 1000 := by
  have := Int.mul_le_mul_of_nonneg_left h1 h0
  omega
theorem mst_len {m f e l : Int} (hm : 0 < m) (h : (l - e) / m ≤ 1000) (i : Nat) : (mst m f e l i).length ≤ i * 1001 := by
  induction i with
  | zero => exact Nat.le_refl _
  | succ i ih =>
    unfold mst
    rw [List.length_append, List.length_map, btw_length]
    have := apn_le (dg := (f + i) % m) (f := e) (e := l) hm (n := 1000) (by omega)
    omega
def leftF (d : HD) (t : Nat) : Int := d.T (t + 1) - d.C (t + 1)
def needB (d : HD) (t : Nat) : Int := max 0 (d.m - (d.C (t + 1) - d.C t))
def callA (d : HD) (t : Nat) : Prop := 0 < d.C (t + 1) - d.C t
theorem mis_eq {d : HD} (h : d.ok) : Mis d = fun t => callA d t ∧ needB d t < leftF d t := funext fun t => propext (mis_iff h t)
theorem mis_grow {d : HD} (h : d.ok) (st : Nat) (hs : d.per ≤ st) : Grow (leftF d) (needB d) (callA d) st d.per d.gr where
  p0 := HD.per_pos h
  f_ := fun t ht => by
    have e := HD.W_per h (t + 1) (by omega)
    unfold HD.W at e
    show d.T (t + d.per + 1) - d.C (t + d.per + 1) = _
    rw [show t + d.per + 1 = t + 1 + d.per by omega]
    exact e
  b_ := fun t ht => by
    have e1 := HD.C_per h (t + 1) (by omega)
    have e2 := HD.C_per h t (by omega)
    show max 0 (d.m - (d.C (t + d.per + 1) - d.C (t + d.per))) = max 0 (d.m - (d.C (t + 1) - d.C t))
    rw [show t + d.per + 1 = t + 1 + d.per by omega, e1, e2]
    congr 2
    omega
  a_ := fun t ht => by
    have e1 := HD.C_per h (t + 1) (by omega)
    have e2 := HD.C_per h t (by omega)
    show 0 < d.C (t + d.per + 1) - d.C (t + d.per) ↔ 0 < d.C (t + 1) - d.C t
    rw [show t + d.per + 1 = t + 1 + d.per by omega, e1, e2]
    omega
theorem far_eq {f b : Nat → Int} {per : Nat} {g : Int} (g0 : 0 < g) (t : Nat) : (t : Int) + (0 - (f t - (b t + 1)) / g) * per = far f b per g t := by
  unfold far
  have e := HD.ceil_eq (a := b t + 1 - f t) g0
  rw [show 0 - (b t + 1 - f t) = f t - (b t + 1) by omega, show b t + 1 - f t + g - 1 = (b t - f t) + g * 1 by omega, Int.add_mul_ediv_left _ _ (by omega)] at e
  rw [e]
/-- extend by a list -/
theorem x_extend {p q : Addr} {xs ys : List V} {L' : List (Addr × HO)} (s : S F L H) (h : Put p (.lst xs) (.lst (xs ++ ys)) L L') (h2 : (q, .lst ys) ∈ L) (hl : xs.length + ys.length ≤ sizeLine) (k : ∀ H1, S F L' H1 → Q .non H1) : rExtend (.ref p) [.ref q] H Q :=
  ⟨p, q, xs, ys, rfl, rfl, s.at_ h.mem, s.at_ h2, hl, k _ (s.put h)⟩
end
end TW
namespace TW
open PySem PySem.Spec PyProof.Rows L2
/-! ### how many mistakes there may be -/
theorem misOk_of {d : HD} (h : d.ok) {t : Nat} (hn : ¬ Mis d t) : MisOk d t := by
  rw [mis_iff h] at hn
  have c1 := HD.C_mono1 h t
  have m0 := h.m0
  have l0 := HD.C_le_T h (t + 1)
  unfold MisOk
  by_cases z : d.C (t + 1) - d.C t = 0
  · rw [z, Int.mul_zero]; decide
  · have : (d.T (t + 1) - d.C (t + 1)) / d.m = 0 := Int.ediv_eq_zero_of_lt (by omega) (by omega)
    rw [this, Int.zero_mul]; decide
theorem misOk_small {d : HD} (h : d.ok) {t : Nat} (hs : d.T (t + 1) - d.C (t + 1) ≤ d.m + 108) : MisOk d t := by
  have c1 := HD.C_mono1 h t
  have c2 := HD.C_step h t
  have m0 := h.m0
  have l0 := HD.C_le_T h (t + 1)
  have q1 : (d.T (t + 1) - d.C (t + 1)) / d.m ≤ 55 := by
    have e1 : (d.T (t + 1) - d.C (t + 1)) / d.m ≤ (108 + d.m * 1) / d.m := Int.ediv_le_ediv (by omega) (by omega)
    rw [Int.add_mul_ediv_left _ _ (by omega)] at e1
    have e2 : (108 : Int) / d.m ≤ 108 / 2 := by
      have q := Int.mul_ediv_add_emod 108 d.m
      have r := Int.emod_nonneg 108 (show d.m ≠ 0 by omega)
      have q0 := Int.ediv_nonneg (show (0 : Int) ≤ 108 by decide) (show 0 ≤ d.m by omega)
      have := Int.mul_le_mul_of_nonneg_right m0 q0
      omega
    omega
  have q0 := Int.ediv_nonneg (show 0 ≤ d.T (t + 1) - d.C (t + 1) by omega) (show 0 ≤ d.m by omega)
  unfold MisOk
  have a1 := Int.mul_le_mul_of_nonneg_right q1 (show 0 ≤ d.C (t + 1) - d.C t by omega)
  omega
theorem W_steps {d : HD} (h : d.ok) (t n : Nat) : d.W (t + n) ≤ d.W t + 9 * n := by
  induction n with
  | zero => simp
  | succ n ih =>
    have e := HD.W_succ (d := d) (t + n)
    have a := (h.a0 (t + n)).2
    have c := (h.cc0 (t + n)).1
    have w := HD.W_nonneg h (t + n)
    rw [show t + (n + 1) = t + n + 1 by omega, e]
    omega
/-- at the first mistake not too many wait -/
theorem misOk_first {d : HD} (h : d.ok) {t : Nat} (hm : Mis d t) (hb : ∀ s, s < t → ¬ Mis d s) : MisOk d t := by
  refine misOk_small h ?_
  have m0 := h.m0
  have hm2 := (mis_iff h t).mp hm
  have cpos : 0 < d.c t := by
    have e : d.C (t + 1) = min (d.T (t + 1)) (d.C t + d.c t) := rfl
    have := (h.cc0 t).1
    omega
  have len := h.c1
  have len0 := h.c0
  by_cases z : d.cl.length ≤ t
  · obtain ⟨s, rfl⟩ : ∃ s, t = s + d.cl.length := ⟨t - d.cl.length, by omega⟩
    have cs : 0 < d.c s := by
      have : d.c (s + d.cl.length) = d.c s := by unfold HD.c; rw [Nat.add_mod_right]
      omega
    have ns := hb s (by omega)
    rw [mis_iff h] at ns
    have e : d.C (s + 1) = min (d.T (s + 1)) (d.C s + d.c s) := rfl
    have c1 := HD.C_mono1 h s
    have le := HD.C_le_T h s
    have tm := HD.T_mono1 h s
    have w1 : d.W (s + 1) ≤ d.m := by
      unfold HD.W
      omega
    have w2 := W_steps h (s + 1) d.cl.length
    rw [show s + 1 + d.cl.length = s + d.cl.length + 1 by omega] at w2
    unfold HD.W at w1 w2
    omega
  · have := HD.T_le h (t + 1)
    have := HD.C_nonneg h (t + 1)
    omega
theorem B_none {d : HD} (hc : ∀ t, d.c t ≤ 0) (n : Nat) : d.B n ≤ 0 := by
  induction n with
  | zero => exact Int.le_refl _
  | succ n ih =>
    show d.B n + d.c n ≤ 0
    have := hc n
    omega
/-- a growing hall that calls at all makes mistakes -/
theorem mis_ex {d : HD} (h : d.ok) (g : 0 < d.gr) (hs : 0 < d.cl.sum) : ∃ t, Mis d t := by
  obtain ⟨j, hj⟩ : ∃ j, 0 < d.c j := by
    apply Classical.byContradiction
    intro z
    have hb := B_none (d := d) (fun t => by
      rcases Int.lt_or_le 0 (d.c t) with y | y
      · exact absurd ⟨t, y⟩ z
      · exact y) d.cl.length
    have e := HD.B_len (d := d) d.cl.length (Nat.le_refl _)
    rw [List.take_length] at e
    omega
  have m0 := h.m0
  have G := mis_grow h d.per (Nat.le_refl _)
  obtain ⟨e1, _, _⟩ := G.mul (j + d.per) (d.m.toNat + 20) (by omega)
  have f0 : 0 ≤ leftF d (j + d.per) := by
    have := HD.C_le_T h (j + d.per + 1)
    unfold leftF
    omega
  have f1 : d.m + 20 ≤ leftF d (j + d.per + (d.m.toNat + 20) * d.per) := by
    have := Int.mul_le_mul_of_nonneg_left (show 1 ≤ d.gr by omega) (show (0 : Int) ≤ ((d.m.toNat + 20 : Nat) : Int) by omega)
    omega
  refine ⟨j + d.per + (d.m.toNat + 20) * d.per, (mis_iff h _).mpr ?_⟩
  generalize hu : j + d.per + (d.m.toNat + 20) * d.per = u at *
  have cu : d.c u = d.c j := by
    have : ∀ k : Nat, d.c (j + k * d.per) = d.c j := fun k => by
      induction k with
      | zero => simp
      | succ k ih => rw [Nat.add_mul, Nat.one_mul, ← Nat.add_assoc, HD.c_per, ih]
    have e := this (1 + (d.m.toNat + 20))
    rw [← hu, ← e]
    congr 1
    simp only [Nat.add_mul, Nat.one_mul]
    omega
  have e : d.C (u + 1) = min (d.T (u + 1)) (d.C u + d.c u) := rfl
  have b := (h.cc0 u).2
  unfold leftF at f1
  omega
/-- the first mistake comes soon -/
theorem mis_bd {d : HD} (h : d.ok) {t : Nat} (hm : Mis d t) (hb : ∀ s, s < t → ¬ Mis d s) : t ≤ 2000000 := by
  have p0 := HD.per_pos h
  have p1 := HD.per_le h
  have m1 := h.m1
  have m0 := h.m0
  have G := mis_grow h d.per (Nat.le_refl _)
  rw [mis_eq h] at hm hb
  by_cases z : t < d.per + d.per
  · omega
  · obtain ⟨t0, k, a, b, rfl⟩ := G.back t (by omega)
    obtain ⟨e1, e2, e3⟩ := G.mul t0 k a
    by_cases kk : (k : Int) ≤ d.m + 1
    · have := Nat.mul_le_mul (show k ≤ 10001 by omega) p1
      omega
    · obtain ⟨f1, f2, f3⟩ := G.mul t0 (k - 1) a
      have lt : t0 + (k - 1) * d.per < t0 + k * d.per := by
        have : k = (k - 1) + 1 := by omega
        rw [this, Nat.add_mul, Nat.one_mul]
        simp only [Nat.add_sub_cancel]
        omega
      refine absurd ?_ (hb _ lt)
      refine ⟨f3.mpr (e3.mp hm.1), ?_⟩
      have ca : callA d t0 := e3.mp hm.1
      have n0 : needB d t0 ≤ d.m := by
        unfold callA at ca
        unfold needB
        omega
      have l0 : 0 ≤ leftF d t0 := by
        have := HD.C_le_T h (t0 + 1)
        unfold leftF
        omega
      rw [f1, f2]
      rcases Int.lt_or_eq_of_le (HD.gr_nonneg (d := d)) with g | g
      · have := Int.mul_le_mul_of_nonneg_left (show 1 ≤ d.gr by omega) (show (0 : Int) ≤ ((k - 1 : Nat) : Int) by omega)
        omega
      · have c := hm.2
        rw [e1, e2, ← g, Int.mul_zero] at c
        rw [← g, Int.mul_zero]
        omega
/-! ### lists of pairs against the empty list -/
def prD (ps : List (Int × Int)) : List PyData := ps.map fun p => .tuple [.int p.1, .int p.2]
theorem dp_prs {K : PySem.W.Frag} {H : Hp} {vs : List V} {ps : List (Int × Int)} (h : Pr2 K H vs ps) : DpAll K H vs (prD ps) := by
  induction h with
  | nil => exact .nil
  | cons h1 _ ih => exact .cons (.tup h1 (.cons (.int _) (.cons (.int _) .nil))) ih
theorem can_prs : ∀ ps : List (Int × Int), PyData.canLayAll0 (prD ps) = true
  | [] => rfl
  | p :: ps => by
    show PyData.canLayAll0 (PyData.tuple [.int p.1, .int p.2] :: prD ps) = true
    simp only [PyData.canLayAll0, PyData.canLay0, can_prs ps]; rfl
theorem dep_prs : ∀ ps : List (Int × Int), PyData.depthAll (prD ps) ≤ 1
  | [] => by decide
  | p :: ps => by
    show PyData.depthAll (PyData.tuple [.int p.1, .int p.2] :: prD ps) ≤ 1
    have := dep_prs ps
    simp only [PyData.depthAll, PyData.depth]
    omega
theorem sh_prs (ps : List (Int × Int)) : SeqAt.shaped (.list (prD ps)) = true := by
  have := dep_prs ps
  simp only [SeqAt.shaped, PyData.canLay0, can_prs, Bool.and_eq_true, decide_eq_true_eq, PyData.depth]
  refine ⟨trivial, decide_eq_true ?_⟩
  omega
theorem eqv_prs0 (ps : List (Int × Int)) : PyData.eqv (.list (prD ps)) (.list []) = decide (ps = []) := by
  cases ps with
  | nil => rfl
  | cons p ps =>
    rw [decide_eq_false (by simp)]
    rfl
section
variable {K : PySem.W.Frag} {H : Hp} {Q : VK} {p q : Addr} {vs : List V} {ps : List (Int × Int)}
theorem x_eqPr0 (h1 : SqL K H p vs) (hp : Pr2 K H vs ps) (h2 : SqL K H q []) (k : Q (.bl (decide (ps = []))) H) : rEqA K (.ref p) (.ref q) H Q :=
  .inr ⟨_, _, .lst h1 (dp_prs hp), .lst h2 .nil, sh_prs ps, by decide, by rw [eqv_prs0]; exact k⟩
theorem x_nePr0 (h1 : SqL K H p vs) (hp : Pr2 K H vs ps) (h2 : SqL K H q []) (k : Q (.bl (!decide (ps = []))) H) : rNeA K (.ref p) (.ref q) H Q :=
  .inr ⟨_, _, .lst h1 (dp_prs hp), .lst h2 .nil, sh_prs ps, by decide, by rw [eqv_prs0]; exact k⟩
end
end TW
namespace TW
open PySem PySem.Spec PyProof.Rows L2
/-- the first mistake comes soon -/
theorem mis_bd2 {d : HD} (h : d.ok) {t : Nat} (hm : Mis d t) (hb : ∀ s, s < t → ¬ Mis d s) : t < (d.m.toNat + 3) * d.per := by
  have p0 := HD.per_pos h
  have p1 := HD.per_le h
  have m1 := h.m1
  have m0 := h.m0
  have G := mis_grow h d.per (Nat.le_refl _)
  rw [mis_eq h] at hm hb
  have x3 : (d.m.toNat + 3) * d.per = d.m.toNat * d.per + 3 * d.per := Nat.add_mul _ _ _
  by_cases z : t < d.per + d.per
  · have := Nat.zero_le (d.m.toNat * d.per)
    omega
  · obtain ⟨t0, k, a, b, rfl⟩ := G.back t (by omega)
    obtain ⟨e1, e2, e3⟩ := G.mul t0 k a
    by_cases kk : (k : Int) ≤ d.m + 1
    · have := Nat.mul_le_mul_right d.per (show k ≤ d.m.toNat + 1 by omega)
      have := Nat.add_mul d.m.toNat 1 d.per
      omega
    · obtain ⟨f1, f2, f3⟩ := G.mul t0 (k - 1) a
      have lt : t0 + (k - 1) * d.per < t0 + k * d.per := by
        have : k = (k - 1) + 1 := by omega
        rw [this, Nat.add_mul, Nat.one_mul]
        simp only [Nat.add_sub_cancel]
        omega
      refine absurd ?_ (hb _ lt)
      refine ⟨f3.mpr (e3.mp hm.1), ?_⟩
      have ca : callA d t0 := e3.mp hm.1
      have n0 : needB d t0 ≤ d.m := by
        unfold callA at ca
        unfold needB
        omega
      have l0 : 0 ≤ leftF d t0 := by
        have := HD.C_le_T h (t0 + 1)
        unfold leftF
        omega
      rw [f1, f2]
      rcases Int.lt_or_eq_of_le (HD.gr_nonneg (d := d)) with g | g
      · have := Int.mul_le_mul_of_nonneg_left (show 1 ≤ d.gr by omega) (show (0 : Int) ≤ ((k - 1 : Nat) : Int) by omega)
        omega
      · have c := hm.2
        rw [e1, e2, ← g, Int.mul_zero] at c
        rw [← g, Int.mul_zero]
        omega
theorem first_ex {P : Nat → Prop} {s : Nat} (h : P s) : ∃ t, P t ∧ ∀ u, u < t → ¬ P u := by
  induction s using Nat.strongRecOn with
  | _ s ih =>
    by_cases z : ∃ u, u < s ∧ P u
    · obtain ⟨u, hu, hp⟩ := z
      exact ih u hu hp
    · exact ⟨s, h, fun u hu hp => z ⟨u, hu, hp⟩⟩
theorem mst_ne {m f e l : Int} (m0 : 2 ≤ m) (fe : f ≤ e) : mst m f e l (e - f).toNat ≠ [] ↔ 0 < e - f ∧ max 0 (m - (e - f)) < l - e := by
  have hm : 0 < m := by omega
  constructor
  · intro hne
    obtain ⟨p, hp⟩ := List.exists_mem_of_ne_nil _ hne
    obtain ⟨h1, h2, h3, h4, h5⟩ := (mem_mst hm).mp hp
    have q := Int.mul_ediv_add_emod (p.2 - p.1) m
    rw [h5, Int.add_zero] at q
    have k : 0 < (p.2 - p.1) / m := by
      have : m * 0 < m * ((p.2 - p.1) / m) := by omega
      exact Int.lt_of_mul_lt_mul_left this (by omega)
    have := Int.mul_le_mul_of_nonneg_left (show 1 ≤ (p.2 - p.1) / m by omega) (show 0 ≤ m by omega)
    omega
  · rintro ⟨h1, h2⟩ hnil
    have key : ∀ p, p ∉ mst m f e l (e - f).toNat := fun p hp => by rw [hnil] at hp; cases hp
    by_cases z : m ≤ e - f
    · refine key (e - m, e) ((mem_mst hm).mpr ⟨?_, ?_, ?_, ?_, ?_⟩)
      · show f ≤ e - m; omega
      · show e - m < _; omega
      · exact Int.le_refl _
      · show e < l; omega
      · show (e - (e - m)) % m = 0
        rw [show e - (e - m) = m by omega]
        exact Int.emod_self
    · refine key (f, f + m) ((mem_mst hm).mpr ⟨?_, ?_, ?_, ?_, ?_⟩)
      · exact Int.le_refl _
      · show f < _; omega
      · show e ≤ f + m; omega
      · show f + m < l; omega
      · show (f + m - f) % m = 0
        rw [show f + m - f = m by omega]
        exact Int.emod_self
theorem mst_cap {d : HD} (h : d.ok) (m10 : d.m ≤ 10) (t : Nat) : mst d.m (d.C t) (d.C (t + 1)) (min (d.T (t + 1)) (d.C (t + 1) + 60)) (d.C (t + 1) - d.C t).toNat ≠ [] ↔ Mis d t := by
  have c1 := HD.C_mono1 h t
  have m0 := h.m0
  rw [mst_ne m0 c1, mis_iff h]
  omega
theorem mst_all {d : HD} {t : Nat} (hs : d.T (t + 1) - d.C (t + 1) < 60) : mst d.m (d.C t) (d.C (t + 1)) (min (d.T (t + 1)) (d.C (t + 1) + 60)) (d.C (t + 1) - d.C t).toNat = MstL d t := by
  unfold MstL
  rw [show min (d.T (t + 1)) (d.C (t + 1) + 60) = d.T (t + 1) by omega]
/-- the pairs of one called number, by a filter -/
theorem btw_pairs {m n e l : Int} (hm : 0 < m) : btw m (n % m) e l = (iv e l).filter fun o => decide ((o - n) % m = 0) :=
  btw_filter hm _ fun y => by
    by_cases z : (y - n) % m = 0
    · rw [decide_eq_true z, decide_eq_true ((emod_sub hm).mpr z)]
    · rw [decide_eq_false z, decide_eq_false (fun w => z ((emod_sub hm).mp w))]
theorem btw_digits {m dg f e : Int} (hm : 0 < m) (d0 : 0 ≤ dg) (d1 : dg < m) : btw m dg f e = (iv f e).filter fun y => decide (y % m = dg) :=
  btw_filter hm _ fun y => by
    by_cases z : y % m = dg
    · rw [decide_eq_true z, decide_eq_true ((emod_eq_iff hm d0 d1).mpr z)]
    · rw [decide_eq_false z, decide_eq_false (fun w => z ((emod_eq_iff hm d0 d1).mp w))]
theorem iv_len {a b : Int} : (iv a b).length = (b - a).toNat := ap_len
theorem iv_get {a b : Int} {i : Nat} {y : V} (h : ((iv a b).map V.int)[i]? = some y) : y = .int (a + i) ∧ (iv a b)[i]? = some (a + i) := by
  rw [List.getElem?_map] at h
  cases e : (iv a b)[i]? with
  | none => rw [e] at h; cases h
  | some o =>
    rw [e] at h
    have hl := (List.getElem?_eq_some_iff.mp e).1
    rw [iv_len] at hl
    rw [ap_get hl, Int.mul_one] at e
    cases e
    exact ⟨(Option.some.inj h).symm, rfl⟩
theorem take_yes {xs : List Int} {i : Nat} {o : Int} {p : Int → Bool} (h : xs[i]? = some o) (hp : p o = true) : (xs.take (i + 1)).filter p = (xs.take i).filter p ++ [o] := by
  rw [List.take_add_one, h, List.filter_append]
  congr 1
  show [o].filter p = [o]
  rw [List.filter_cons, if_pos hp]
  rfl
theorem take_no {xs : List Int} {i : Nat} {o : Int} {p : Int → Bool} (h : xs[i]? = some o) (hp : ¬ p o = true) : (xs.take (i + 1)).filter p = (xs.take i).filter p := by
  rw [List.take_add_one, h, List.filter_append]
  show _ ++ [o].filter p = _
  rw [List.filter_cons, if_neg hp]
  simp
end TW
namespace TW
open PySem PySem.Spec PyProof.Rows L2
/-! ### data in the heap -/
section
variable {K : PySem.W.Frag} {E E' H : Hp} {v x y : V} {vs ws : List V} {d : PyData} {ds es : List PyData} {F : List MP} {L : List (Addr × HO)} {p : Addr} {xs : List V} {ns : List Int}
theorem dpAllM (e : Same E E') (h : DpAll K E vs ds) : DpAll K E' vs ds :=
  DpAll.rec (motive_1 := fun v d _ => Dp K E' v d) (motive_2 := fun vs ds _ => DpAll K E' vs ds) .non (fun b => .bl b) (fun i => .int i) (fun z => .str z)
    (fun h _ ih => .lst (sqL_mono e h) ih) (fun h _ ih => .tup (sqT_mono e h) ih) .nil (fun _ _ h1 h2 => .cons h1 h2) h
/-- values that read as data -/
def dsP (K : PySem.W.Frag) (vs : List V) (ds : List PyData) : MP := ⟨fun E => DpAll K E vs ds, fun _ _ e h => dpAllM e h⟩
theorem dpApp : ∀ {vs : List V} {ds : List PyData}, DpAll K E vs ds → DpAll K E ws es → DpAll K E (vs ++ ws) (ds ++ es)
  | _, _, .nil, h => h
  | _, _, .cons a b, h => .cons a (dpApp b h)
theorem dpLen : ∀ {vs : List V} {ds : List PyData}, DpAll K E vs ds → vs.length = ds.length
  | _, _, .nil => rfl
  | _, _, .cons _ b => by rw [List.length_cons, List.length_cons, dpLen b]
theorem dpGet : ∀ {vs : List V} {ds : List PyData} {i : Nat} {v : V}, DpAll K E vs ds → vs[i]? = some v → ∃ d, ds[i]? = some d ∧ Dp K E v d
  | _, _, 0, _, .cons a _, h => ⟨_, rfl, by cases h; exact a⟩
  | _, _, i + 1, _, .cons _ b, h => dpGet (i := i) b h
theorem dpInts : ∀ {vs : List V} {ns : List Int}, DpAll K E vs (ns.map PyData.int) → vs = ns.map V.int
  | _, [], .nil => rfl
  | _, _ :: _, .cons (.int _) b => by rw [List.map_cons, dpInts b]
theorem dpStrs : ∀ {vs : List V} {ns : List Str}, DpAll K E vs (ns.map PyData.str) → vs = ns.map V.str
  | _, [], .nil => rfl
  | _, _ :: _, .cons (.str _) b => by rw [List.map_cons, dpStrs b]
theorem dpRev : ∀ {vs : List V} {ds : List PyData}, DpAll K E vs ds → DpAll K E vs.reverse ds.reverse
  | _, _, .nil => .nil
  | _, _, .cons a b => by rw [List.reverse_cons, List.reverse_cons]; exact dpApp (dpRev b) (.cons a .nil)
theorem S.getD {i : Nat} (s : S F L H) (m : dsP K vs ds ∈ F) (hv : vs[i]? = some v) : ∃ d, ds[i]? = some d ∧ S (dtP K v d :: F) L H := by
  obtain ⟨E, h1, h2, h3⟩ := s.ex
  obtain ⟨d, hd, q⟩ := dpGet (h2 _ m) hv
  refine ⟨d, hd, s.put_ _ fun E e => ?_⟩
  obtain ⟨d', hd', q'⟩ := dpGet (e _ m) hv
  rw [hd] at hd'
  cases hd'
  exact q'
theorem S.tupI (s : S F L H) (m : dtP K v (.tuple ds) ∈ F) : ∃ q vs, v = .ref q ∧ S (tuF K q vs :: dsP K vs ds :: F) L H := by
  obtain ⟨E, h1, h2, h3⟩ := s.ex
  have q := h2 _ m
  cases (show Dp K E v (.tuple ds) from q) with
  | tup hq hd =>
    rename_i a xs
    refine ⟨a, xs, rfl, ⟨E, h1, fun f hf => ?_, h3⟩, s.cell, s.nd⟩
    rcases List.mem_cons.mp hf with rfl | hf
    · exact hq
    rcases List.mem_cons.mp hf with rfl | hf
    · exact hd
    exact h2 f hf
theorem S.lstI (s : S F L H) (m : dtP K v (.list ds) ∈ F) : ∃ q vs, v = .ref q ∧ S (liF K q vs :: dsP K vs ds :: F) L H := by
  obtain ⟨E, h1, h2, h3⟩ := s.ex
  have q := h2 _ m
  cases (show Dp K E v (.list ds) from q) with
  | lst hq hd =>
    rename_i a xs
    refine ⟨a, xs, rfl, ⟨E, h1, fun f hf => ?_, h3⟩, s.cell, s.nd⟩
    rcases List.mem_cons.mp hf with rfl | hf
    · exact hq
    rcases List.mem_cons.mp hf with rfl | hf
    · exact hd
    exact h2 f hf
/-- a tuple of ints -/
abbrev pd (ns : List Int) : PyData := .tuple (ns.map .int)
theorem S.tupInts (s : S F L H) (m : dtP K v (pd ns) ∈ F) : ∃ q, v = .ref q ∧ S (tuF K q (ns.map V.int) :: F) L H := by
  obtain ⟨q, vs, rfl, s⟩ := s.tupI m
  have e := dpInts (s.phi (f := dsP K vs _) (List.mem_cons_of_mem _ List.mem_cons_self))
  subst e
  exact ⟨q, rfl, s.mono (fun g hg => by
    rcases List.mem_cons.mp hg with rfl | hg
    · exact List.mem_cons_self
    · exact List.mem_cons_of_mem _ (List.mem_cons_of_mem _ hg)) (List.Sublist.refl _)⟩
theorem Ent.app (h1 : Ent F (dsP K vs ds)) (h2 : Ent F (dsP K ws es)) : Ent F (dsP K (vs ++ ws) (ds ++ es)) := fun E e => dpApp (h1 E e) (h2 E e)
theorem Ent.dnil : Ent F (dsP K [] []) := fun _ _ => .nil
theorem Ent.done (h : Ent F (dtP K v d)) : Ent F (dsP K [v] [d]) := fun E e => .cons (h E e) .nil
theorem Ent.dcons (h : Ent F (dtP K v d)) (h2 : Ent F (dsP K vs ds)) : Ent F (dsP K (v :: vs) (d :: ds)) := fun E e => .cons (h E e) (h2 E e)
theorem Ent.dtup (h : Ent F (tuF K p xs)) (h2 : Ent F (dsP K xs ds)) : Ent F (dtP K (.ref p) (.tuple ds)) := fun E e => .tup (h E e) (h2 E e)
theorem Ent.dlst (h : Ent F (liF K p xs)) (h2 : Ent F (dsP K xs ds)) : Ent F (dtP K (.ref p) (.list ds)) := fun E e => .lst (h E e) (h2 E e)
theorem Ent.dints : Ent F (dsP K (ns.map V.int) (ns.map .int)) := fun _ _ => dp_ints ns
theorem Ent.lis {xs : List V} (h : cel p (.lst xs) ∈ F) : Ent F (liF K p xs) := fun E e => SqL.of (e _ h)
theorem Ent.dpd (h : Ent F (tuF K p (ns.map V.int))) : Ent F (dtP K (.ref p) (pd ns)) := Ent.dtup h Ent.dints
theorem Ent.dnon : Ent F (dtP K .non .none) := fun _ _ => .non
theorem Ent.dint {i : Int} : Ent F (dtP K (.int i) (.int i)) := fun _ _ => .int i
theorem Ent.dstr {z : Str} : Ent F (dtP K (.str z) (.str z)) := fun _ _ => .str z
theorem Ent.dbl {b : Bool} : Ent F (dtP K (.bl b) (.bool b)) := fun _ _ => .bl b
end
/-- facts in another order -/
inductive SubF (F : List MP) : List MP → Prop where
  | base {F'} : F'.Sublist F → SubF F F'
  | cons {f F'} : f ∈ F → SubF F F' → SubF F (f :: F')
theorem SubF.sub {F F' : List MP} (h : SubF F F') : ∀ f ∈ F', f ∈ F := by
  induction h with
  | base h => exact fun f hf => h.subset hf
  | cons h _ ih =>
    intro f hf
    rcases List.mem_cons.mp hf with rfl | hf
    · exact h
    · exact ih f hf
theorem S.re {F F' : List MP} {L L' : List (Addr × HO)} {H : Hp} (s : S F L H) (hF : SubF F F') (hL : L'.Sublist L) : S F' L' H := s.mono hF.sub hL
/-- a statement at which the walk stops -/
def tCut (t : TS) : TS := t
theorem ps_cut {X : Cx} {s : Stmt} {t : TS} (h : PS X s t) : PS X s (tCut t) := h
theorem r_cut {t : TS} {D : Ends} {σ : Sl} {H : Hp} (h : t D σ H) : tCut t D σ H := h
/-! equal data -/
mutual
def wide : PyData → Bool
  | .none | .bool _ | .int _ | .str _ => true
  | .list xs | .tuple xs => decide (xs.length ≤ 100000) && wideAll xs
  | .dict _ => false
def wideAll : List PyData → Bool
  | [] => true
  | x :: xs => wide x && wideAll xs
end
mutual
theorem eq2_dp {K : PySem.W.Frag} {H : Hp} : ∀ (d : PyData) {n : Nat} {x y : V}, d.depth ≤ n → wide d = true → Dp K H x d → Dp K H y d → Eq2 K H n x y
  | .none, _, _, _, _, _, .non, .non => .non
  | .bool _, _, _, _, _, _, .bl _, .bl _ => .bl
  | .int _, _, _, _, _, _, .int _, .int _ => .int rfl
  | .str _, _, _, _, _, _, .str _, .str _ => .str
  | .list ds, n, _, _, h, w, .lst a1 b1, .lst a2 b2 => by
    cases n with
    | zero => exact absurd h (by simp [PyData.depth])
    | succ n =>
      have w' : (decide (ds.length ≤ 100000) && wideAll ds) = true := w
      obtain ⟨w1, w2⟩ := Bool.and_eq_true_iff.mp w'
      exact .lst a1 a2 (by rw [dpLen b2]; exact of_decide_eq_true w1) (eq2_dps ds (Nat.le_of_succ_le_succ h) w2 b1 b2)
  | .tuple ds, n, _, _, h, w, .tup a1 b1, .tup a2 b2 => by
    cases n with
    | zero => exact absurd h (by simp [PyData.depth])
    | succ n =>
      have w' : (decide (ds.length ≤ 100000) && wideAll ds) = true := w
      obtain ⟨w1, w2⟩ := Bool.and_eq_true_iff.mp w'
      exact .tup a1 a2 (by rw [dpLen b2]; exact of_decide_eq_true w1) (eq2_dps ds (Nat.le_of_succ_le_succ h) w2 b1 b2)
theorem eq2_dps {K : PySem.W.Frag} {H : Hp} : ∀ (ds : List PyData) {n : Nat} {vs ws : List V}, PyData.depthAll ds ≤ n → wideAll ds = true → DpAll K H vs ds → DpAll K H ws ds → Fa2 (Eq2 K H n) vs ws
  | [], _, _, _, _, _, .nil, .nil => .nil
  | d :: ds, n, _, _, h, w, .cons a1 b1, .cons a2 b2 => by
    have w' : (wide d && wideAll ds) = true := w
    obtain ⟨w1, w2⟩ := Bool.and_eq_true_iff.mp w'
    have h' : max d.depth (PyData.depthAll ds) ≤ n := h
    exact .cons (eq2_dp d (by omega) w1 a1 a2) (eq2_dps ds (by omega) w2 b1 b2)
end
theorem wideAll_of {ds : List PyData} (h : ∀ d ∈ ds, wide d = true) : wideAll ds = true := by
  induction ds with
  | nil => rfl
  | cons d ds ih =>
    show (wide d && wideAll ds) = true
    rw [h d List.mem_cons_self, ih fun x hx => h x (List.mem_cons_of_mem _ hx)]
    rfl
theorem wide_ints {ns : List Int} : wideAll (ns.map PyData.int) = true := wideAll_of fun d hd => by
  obtain ⟨i, _, rfl⟩ := List.mem_map.mp hd
  rfl
theorem wide_pd {ns : List Int} (h : ns.length ≤ 100000) : wide (pd ns) = true := by
  show (decide (_ ≤ 100000) && wideAll _) = true
  rw [wide_ints, List.length_map, decide_eq_true h]
  rfl
theorem depAll_of {ds : List PyData} {n : Nat} (h : ∀ d ∈ ds, d.depth ≤ n) : PyData.depthAll ds ≤ n := by
  induction ds with
  | nil => exact Nat.zero_le _
  | cons d ds ih =>
    show max d.depth (PyData.depthAll ds) ≤ n
    have h1 := h d List.mem_cons_self
    have h2 := ih fun x hx => h x (List.mem_cons_of_mem _ hx)
    omega
theorem dep_pd {ns : List Int} : (pd ns).depth ≤ 1 := by
  show PyData.depthAll _ + 1 ≤ 1
  rw [dep_ints]
  exact Nat.le_refl _
theorem c_equalD {K : PySem.W.Frag} {H : Hp} {Q : VK} {E : XK} {F : List MP} {L : List (Addr × HO)} {u v : V} {n : Nat} {d : PyData} (s : S F L H) (h1 : Ent F (dtP K u d)) (h2 : Ent F (dtP K v d)) (hd : d.depth ≤ n) (hw : wide d = true) (k : ∀ H', S F L H' → Q (.bl true) H') : spEq K n [u, v] H Q E :=
  c_equal s (eq2_dp d hd hw (s.ent h1) (s.ent h2)) k
theorem c_equalV {K : PySem.W.Frag} {H : Hp} {Q : VK} {E : XK} {F : List MP} {L : List (Addr × HO)} {u v : V} {n : Nat} {d : PyData} (s : S F L H) (h1 : Dp K H u d) (h2 : Dp K H v d) (hd : d.depth ≤ n) (hw : wide d = true) (k : ∀ H', S F L H' → Q (.bl true) H') : spEq K n [u, v] H Q E :=
  c_equal s (eq2_dp d hd hw h1 h2) k
end TW
namespace TW
open PySem PySem.Spec PyProof.Rows L2
/-! ### xs[i] += e on lists -/
section
variable {X : Cx}
theorem get_list : PGet X (rIxL X.K) := by
  intro pins s σ H x y v u Q I rx ry h
  obtain ⟨p, xs, i, z, rfl, rfl, hq, he, q⟩ := h
  cases rx
  obtain ⟨t, rfl⟩ := ry
  obtain ⟨its, r, pl, hz⟩ := I.list hq
  obtain ⟨j, h1, h2, h3, h4, h5⟩ := atI_get he
  obtain ⟨w, ew, rw'⟩ := r.get h2
  have hl := r.length
  have hn := line63
  have fin : EP X pins σ Q w s := ⟨z, H, I, rw', q⟩
  by_cases h0 : 0 ≤ i
  · have hj : i.toNat = j := by
      rw [seqIndex_of h0 h5] at h1
      exact Option.some.inj h1
    exact wpAny_getItem_list pl.isList h0 (by omega) (by rw [hj]; simpa using ew) fin
  · have hj : (i + (its.toArray.size : Int)).toNat = j := by
      rw [seqIndex_neg (by omega) h4] at h1
      rw [List.size_toArray, ← hl]
      exact Option.some.inj h1
    exact wpAny_getItem_list_neg pl.isList (by omega) (by rw [List.size_toArray] <;> omega) (by omega) (by rw [hj]; simpa using ew) fin
def rCntT (K : PySem.W.Frag) : V → List V → Hp → VK → Prop := fun x xs H Q => ∃ (p : Addr) (ns : List Int) (k : Int), x = .ref p ∧ xs = [.int k] ∧ SqT K H p (ns.map V.int) ∧ Q (.int (ns.count k : Nat)) H
theorem mt_tcount : MtR X "tuple.count" (rCntT X.K) := by
  intro pins s σ H x xs v us Q I rx rxs h
  obtain ⟨p, ns, k, rfl, rfl, hs, q⟩ := h
  cases rx
  obtain ⟨u, rfl, ru⟩ := rxs.one
  obtain ⟨t, rfl⟩ := ru
  obtain ⟨its, rv, ⟨⟨cls, dd, data, sl⟩, ho, hc, n, hd⟩, hlen⟩ := I.tuple hs
  simp only at hc hd
  subst hc hd
  have hi := ints_of_vals rv
  refine call_meets PySem.F.slot_tuple_count ⟨_, ho, rfl⟩ PySem.F.entry_tuple_count (PySem.F.args_tuple_count_2 _ _)
    (SeqAt.tuple_countAt p its.toArray n dd sl (.int k t) (eqk k)) ⟨ho, fun y hy => (eqk_gives hi y (by simpa using hy)).at _ _, ?_⟩
  have ec : its.toArray.toList.countP (eqk k) = ns.count k := eqk_count hi
  refine ⟨.int (ns.count k : Nat), H, I.tok _, ⟨s.toks, ?_⟩, q⟩
  show Value.int ((its.toArray.toList.countP (eqk k) : Nat) : Int) s.toks = Value.int ((ns.count k : Nat) : Int) s.toks
  rw [ec]
end

theorem m_tcount {K : PySem.W.Frag} (hK : X.K = K) : MtR X "tuple.count" (rCntT K) := by subst hK; exact mt_tcount
theorem d_augS (K) {o i e : Expr} {to ti te : TE} {tpos pos : Pos} (ho : PE X o to) (hi : PE X i ti) (he : PE X e te) (ha : ∀ ov iv new, augStore i ov iv new = (do holding [new, ov, iv] (setItem ov iv new); release [new, ov, iv] []; pure .next) := by intros; rfl) (hK : X.K = K := by rfl) :
    PS X (.AugAssign (.Subscript o i tpos) .Add e pos) (tAugS to ti te (rIxL K) (ipI fun i j => i + j) rSetL) := by subst hK; exact ps_augS ho hi get_list he ip_add set_list ha
theorem d_revL (K) {e : Expr} {te : TE} {k : Nat} {p1 p2 p3 pos : Pos} (he : PE X e te) (hK : X.K = K := by rfl) : PE X (.Subscript e (.Slice none none (some (.UnaryOp .USub (.Constant (.int 1) k p1) p2)) p3) pos) (tRevL K te) := by subst hK; exact pe_revL he
/-! ### k17: plans -/
section
variable {cl ps : List Int} {c j : Int} {n : Nat}
def adC (cl ps : List Int) : List Int := (List.range cl.length).map fun (k : Nat) => cl.getD k 0 + (ps.count (k : Int) : Nat)
theorem adC_len : (adC cl ps).length = cl.length := by unfold adC; rw [List.length_map, List.length_range]
theorem adC_get {k : Nat} (h : k < cl.length) : (adC cl ps)[k]? = some (cl.getD k 0 + (ps.count (k : Int) : Nat)) := by
  unfold adC
  rw [List.getElem?_map, List.getElem?_range h]
  rfl
theorem adC_getD {k : Nat} (h : k < cl.length) : (adC cl ps).getD k 0 = cl.getD k 0 + (ps.count (k : Int) : Nat) := by
  rw [List.getD_eq_getElem?_getD, adC_get h]; rfl
theorem adC_nil : adC cl [] = cl := by
  apply List.ext_getElem?
  intro k
  by_cases h : k < cl.length
  · rw [adC_get h, List.getD_eq_getElem?_getD, List.getElem?_eq_getElem h]
    simp
  · rw [List.getElem?_eq_none (by rw [adC_len]; omega), List.getElem?_eq_none (by omega)]
theorem adC_snoc (h0 : 0 ≤ j) (h1 : j < cl.length) : (adC cl ps).set j.toNat ((adC cl ps).getD j.toNat 0 + 1) = adC cl (ps ++ [j]) := by
  apply List.ext_getElem?
  intro k
  by_cases h : k < cl.length
  · rw [List.getElem?_set, adC_get h]
    by_cases e : j.toNat = k
    · subst e
      rw [if_pos rfl, if_pos (by rw [adC_len]; exact h), adC_getD h, adC_get h, List.count_append, show ((j.toNat : Nat) : Int) = j by omega, List.count_singleton_self, Int.natCast_add]
      congr 1
      omega
    · rw [if_neg e, adC_get h, List.count_append, List.count_singleton, if_neg (by simp; omega)]
      simp
  · rw [List.getElem?_eq_none (by rw [List.length_set, adC_len]; omega), List.getElem?_eq_none (by rw [adC_len]; omega)]
theorem adC_bd (h : ∀ x ∈ cl, 0 ≤ x ∧ x ≤ 9) (h2 : ps.length ≤ 5) : ∀ x ∈ adC cl ps, 0 ≤ x ∧ x ≤ 14 := by
  intro x hx
  obtain ⟨k, _, rfl⟩ := List.mem_map.mp hx
  have := HD.getD_bd (xs := cl) (i := k) h
  have := List.count_le_length (a := (k : Int)) (l := ps)
  omega
def frst (ps : List Int) : Int := ps.getLastD 0
def ext (c : Int) (ps : List Int) : List (List Int) := (iv (frst ps) c).map fun x => ps ++ [x]
def lay (c : Int) : Nat → List (List Int)
  | 0 => [[]]
  | n + 1 => (lay c n).flatMap (ext c)
def inR (c : Int) (ps : List Int) : Prop := ∀ x ∈ ps, 0 ≤ x ∧ x < c
theorem frst_in (c0 : 0 < c) (h : inR c ps) : 0 ≤ frst ps ∧ frst ps < c := by
  unfold frst
  rcases List.eq_nil_or_concat ps with rfl | ⟨qs, z, rfl⟩
  · exact ⟨Int.le_refl _, c0⟩
  · rw [List.concat_eq_append, List.getLastD_concat]
    exact h z (by rw [List.concat_eq_append]; exact List.mem_append_right _ List.mem_cons_self)
theorem ext_len (c0 : 0 < c) (h : inR c ps) : (ext c ps).length ≤ c.toNat := by
  unfold ext
  rw [List.length_map, iv_len]
  have := frst_in c0 h
  omega
theorem ext_in (c0 : 0 < c) (h : inR c ps) : ∀ qs ∈ ext c ps, inR c qs ∧ qs.length = ps.length + 1 := by
  intro qs hq
  obtain ⟨x, hx, rfl⟩ := List.mem_map.mp hq
  have hx := mem_iv.mp hx
  have hf := frst_in c0 h
  refine ⟨fun y hy => ?_, by rw [List.length_append]; rfl⟩
  rcases List.mem_append.mp hy with hy | hy
  · exact h y hy
  · rw [List.mem_singleton.mp hy]
    omega
theorem lay_in (c0 : 0 < c) : ∀ n, ∀ qs ∈ lay c n, inR c qs ∧ qs.length = n := by
  intro n
  induction n with
  | zero =>
    intro qs hq
    rw [List.mem_singleton.mp hq]
    exact ⟨fun _ h => (nomatch h), rfl⟩
  | succ n ih =>
    intro qs hq
    obtain ⟨ps, hp, hq⟩ := List.mem_flatMap.mp hq
    obtain ⟨h1, h2⟩ := ih ps hp
    obtain ⟨h3, h4⟩ := ext_in c0 h1 qs hq
    exact ⟨h3, by rw [h4, h2]⟩
theorem flat_len {l : List (List Int)} (c0 : 0 < c) (h : ∀ ps ∈ l, inR c ps) : (l.flatMap (ext c)).length ≤ l.length * c.toNat := by
  induction l with
  | nil => simp
  | cons x l ih =>
    rw [List.flatMap_cons, List.length_append, List.length_cons, Nat.succ_mul]
    have h1 := ext_len c0 (h x List.mem_cons_self)
    have h2 := ih fun y hy => h y (List.mem_cons_of_mem _ hy)
    omega
theorem lay_len (c0 : 0 < c) {b : Nat} (hb : c ≤ b) (n : Nat) : (lay c n).length ≤ b ^ n := by
  induction n with
  | zero => exact Nat.le_refl _
  | succ n ih =>
    have h1 := flat_len c0 fun ps hp => (lay_in c0 n ps hp).1
    have h2 := Nat.mul_le_mul ih (show c.toNat ≤ b by omega)
    rw [Nat.pow_succ]
    exact Nat.le_trans h1 h2
open Classical in
noncomputable def fnd (P : List Int → Prop) (l : List (List Int)) : Option (List Int) := l.find? fun x => decide (P x)
theorem fnd_nil {P : List Int → Prop} : fnd P [] = none := rfl
open Classical in
theorem fnd_yes {P : List Int → Prop} {x : List Int} {l : List (List Int)} (h : P x) : fnd P (x :: l) = some x := by
  unfold fnd
  rw [List.find?_cons, show decide (P x) = true from decide_eq_true h]
open Classical in
theorem fnd_no {P : List Int → Prop} {x : List Int} {l : List (List Int)} (h : ¬ P x) : fnd P (x :: l) = fnd P l := by
  unfold fnd
  rw [List.find?_cons, show decide (P x) = false from decide_eq_false h]
theorem fnd_app {P : List Int → Prop} {l k : List (List Int)} : fnd P (l ++ k) = (fnd P l).or (fnd P k) := List.find?_append
def optD : Option (List Int) → PyData
  | none => .none
  | some ps => pd ps
def flay (c : Int) (n : Nat) : List (List Int) := (List.range n).flatMap (lay c)
theorem flay_succ : flay c (n + 1) = flay c n ++ lay c n := by
  unfold flay
  rw [List.range_succ, List.flatMap_append, List.flatMap_singleton]
theorem flay_le {m : Nat} (h : n ≤ m) : ∃ r, flay c m = flay c n ++ r := by
  induction m with
  | zero => exact ⟨[], by rw [show n = 0 by omega, List.append_nil]⟩
  | succ m ih =>
    by_cases e : n = m + 1
    · exact ⟨[], by rw [e, List.append_nil]⟩
    · obtain ⟨r, hr⟩ := ih (by omega)
      exact ⟨r ++ lay c m, by rw [flay_succ, hr, List.append_assoc]⟩
/-- the last i of the first L layers -/
def rl (c : Int) (L : Nat) : Nat → List (List Int)
  | 0 => []
  | i + 1 => lay c (L - 1 - i) ++ rl c L i
theorem rl_all {L : Nat} : rl c L L = flay c L := by
  have key : ∀ i, i ≤ L → flay c (L - i) ++ rl c L i = flay c L := by
    intro i
    induction i with
    | zero => intro _; exact List.append_nil _
    | succ i ih =>
      intro h
      have e := ih (by omega)
      rw [show L - i = L - (i + 1) + 1 by omega, flay_succ, List.append_assoc] at e
      rw [← e]
      show _ ++ (lay c (L - 1 - i) ++ _) = _
      rw [show L - 1 - i = L - (i + 1) by omega]
  have := key L (Nat.le_refl _)
  rw [Nat.sub_self] at this
  exact this
theorem fnd_hit {P : List Int → Prop} {i j m : Nat} {ps : List Int} (h1 : fnd P (flay c i) = none) (h2 : fnd P ((lay c i).take j) = none) (hj : (lay c i)[j]? = some ps) (hp : P ps) (hm : i < m) : fnd P (flay c m) = some ps := by
  obtain ⟨r, hr⟩ := flay_le (c := c) (show i + 1 ≤ m from hm)
  obtain ⟨hlt, hx⟩ := List.getElem?_eq_some_iff.mp hj
  have e : lay c i = (lay c i).take j ++ ps :: (lay c i).drop (j + 1) := by
    rw [← hx, ← List.drop_eq_getElem_cons hlt, List.take_append_drop]
  rw [hr, flay_succ, fnd_app, fnd_app, h1, e, fnd_app, h2, fnd_yes hp]
  rfl
theorem fnd_step {P : List Int → Prop} {j : Nat} {l : List (List Int)} {ps : List Int} (h2 : fnd P (l.take j) = none) (hj : l[j]? = some ps) (hp : ¬ P ps) : fnd P (l.take (j + 1)) = none := by
  rw [List.take_add_one, hj, Option.toList_some, fnd_app, h2, fnd_no hp]
  rfl
theorem fnd_lay {P : List Int → Prop} {i : Nat} (h1 : fnd P (flay c i) = none) (h2 : fnd P (lay c i) = none) : fnd P (flay c (i + 1)) = none := by
  rw [flay_succ, fnd_app, h1, h2]
  rfl
theorem map_get {α β : Type} {f : α → β} {l : List α} {i : Nat} {y : β} (h : (l.map f)[i]? = some y) : ∃ x, l[i]? = some x ∧ y = f x := by
  rw [List.getElem?_map] at h
  cases e : l[i]? with
  | none => rw [e] at h; cases h
  | some x => rw [e] at h; exact ⟨x, rfl, (Option.some.inj h).symm⟩
theorem take_flat_len {i j : Nat} (c0 : 0 < c) {b : Nat} (hb : c ≤ b) : (((lay c i).take j).flatMap (ext c)).length ≤ b ^ (i + 1) := by
  have h1 := flat_len (l := (lay c i).take j) c0 fun ps hp => (lay_in c0 i ps (List.mem_of_mem_take hp)).1
  have h2 := lay_len c0 hb i
  have h3 := List.length_take_le' j (lay c i)
  have h4 := Nat.mul_le_mul (Nat.le_trans h3 h2) (show c.toNat ≤ b by omega)
  rw [Nat.pow_succ]
  exact Nat.le_trans h1 h4
def layD (c : Int) (n : Nat) : List PyData := (List.range n).map fun j => .list ((lay c j).map pd)
theorem layD_succ {c : Int} {n : Nat} : layD c (n + 1) = layD c n ++ [.list ((lay c n).map pd)] := by
  unfold layD
  rw [List.range_succ, List.map_append]
  rfl
theorem layD_get {c : Int} {n i : Nat} {d : PyData} (h : (layD c n)[i]? = some d) : i < n ∧ d = .list ((lay c i).map pd) := by
  obtain ⟨j, hj, e⟩ := map_get h
  have hl := (List.getElem?_eq_some_iff.mp hj).1
  rw [List.length_range] at hl
  rw [List.getElem?_range hl] at hj
  cases hj
  exact ⟨hl, e⟩
theorem rev_get {α : Type} {l : List α} {i : Nat} {x : α} (h : l.reverse[i]? = some x) : i < l.length ∧ l[l.length - 1 - i]? = some x := by
  have hl := (List.getElem?_eq_some_iff.mp h).1
  rw [List.length_reverse] at hl
  rw [List.getElem?_reverse hl] at h
  exact ⟨hl, h⟩
theorem drop_rev {l : List (List Int)} {j : Nat} {ps : List Int} (h : l.reverse[j]? = some ps) : l.drop (l.length - (j + 1)) = ps :: l.drop (l.length - j) := by
  obtain ⟨hl, h⟩ := rev_get h
  obtain ⟨h1, h2⟩ := List.getElem?_eq_some_iff.mp h
  rw [show l.length - (j + 1) = l.length - 1 - j by omega, List.drop_eq_getElem_cons h1, h2, show l.length - 1 - j + 1 = l.length - j by omega]
theorem fnd_mem {P : List Int → Prop} {l : List (List Int)} {ps : List Int} (h : fnd P l = some ps) : ps ∈ l := List.mem_of_find?_eq_some h
theorem optD_ok {P : List Int → Prop} {c : Int} {n : Nat} (c0 : 0 < c) (hn : n ≤ 1000) : (optD (fnd P (flay c n))).depth ≤ 5 ∧ wide (optD (fnd P (flay c n))) = true := by
  cases e : fnd P (flay c n) with
  | none => exact ⟨Nat.zero_le _, rfl⟩
  | some ps =>
    obtain ⟨i, hi, hm⟩ := List.mem_flatMap.mp (fnd_mem e)
    have hl := (lay_in c0 i ps hm).2
    have := List.mem_range.mp hi
    exact ⟨Nat.le_trans dep_pd (by decide), wide_pd (by omega)⟩
def Clr (d : HD) : Prop := d.gr = 0 ∧ ∃ m, d.IsMost m ∧ m ≤ d.m
def adH (d : HD) (ps : List Int) : HD := { d with cl := adC d.cl ps }
/-- these places make it clear -/
def Gd (d : HD) (ps : List Int) : Prop := (∀ y ∈ adC d.cl ps, y ≤ 9) ∧ Clr (adH d ps)
theorem ok_ad {d : HD} (h : d.ok) {ps : List Int} (h4 : ps.length ≤ 5) (h9 : ∀ y ∈ adC d.cl ps, y ≤ 9) : (adH d ps).ok :=
  ⟨h.m0, h.m1, h.t0, h.t1, h.t2, by show 0 < (adC _ _).length; rw [adC_len]; exact h.c0, by show (adC _ _).length ≤ 12; rw [adC_len]; exact h.c1, fun y hy => ⟨(adC_bd h.c2 h4 y hy).1, h9 y hy⟩, h.l0, h.l1⟩
theorem okw_ad {d : HD} (h : d.ok) {ps : List Int} (h4 : ps.length ≤ 5) : (adH d ps).okw :=
  ⟨h.w.t0, h.w.t1, h.w.t2, by show 0 < (adC _ _).length; rw [adC_len]; exact h.c0, by show (adC _ _).length ≤ 12; rw [adC_len]; exact h.c1, fun y hy => by have := adC_bd h.c2 h4 y hy; omega, h.l0, h.l1⟩
end
def spWith (K : PySem.W.Frag) : Sp := fun vs H Q _ => ∃ (F : List MP) (L : List (Addr × HO)) (x p : Addr) (d : HD) (ps : List Int), vs = [.ref x, .ref p] ∧ d.ok ∧ hallP K x d ∈ F ∧ Ent F (tuF K p (ps.map V.int)) ∧ ps.length ≤ 5 ∧ inR d.cl.length ps ∧ S F L H ∧
  (¬ (∀ y ∈ adC d.cl ps, y ≤ 9) → ∀ H', S F L H' → Q .non H') ∧ ((∀ y ∈ adC d.cl ps, y ≤ 9) → ∀ y H', S (hallP K y (adH d ps) :: F) L H' → Q (.ref y) H')
def spLonger (K : PySem.W.Frag) : Sp := fun vs H Q _ => ∃ (F : List MP) (L : List (Addr × HO)) (p : Addr) (c : Int) (ps : List Int), vs = [.ref p, .int c] ∧ 0 < c ∧ c ≤ 12 ∧ inR c ps ∧ ps.length ≤ 1000 ∧ Ent F (tuF K p (ps.map V.int)) ∧ S F L H ∧
  ∀ l ws H', S (dsP K ws ((ext c ps).map pd) :: F) ((l, .lst ws) :: L) H' → Q (.ref l) H'
def spPlan (K : PySem.W.Frag) : Sp := fun vs H Q _ => ∃ (F : List MP) (L : List (Addr × HO)) (x : Addr) (d : HD) (n : Int), vs = [.ref x, .int n] ∧ d.ok ∧ hallP K x d ∈ F ∧ 0 ≤ n ∧ n ≤ 4 ∧ S F L H ∧
  ∀ v H', S (dtP K v (optD (fnd (Gd d) (flay d.cl.length (n.toNat + 1)))) :: F) L H' → Q v H'
section
variable {K : PySem.W.Frag} {H : Hp} {Q : VK} {E : XK} {F : List MP} {L L' : List (Addr × HO)} {x p : Addr} {d : HD} {n c : Int} {ps : List Int}
theorem c_with (s : S F L H) (m : hallP K x d ∈ F) (ok : d.ok) (e : Ent F (tuF K p (ps.map V.int))) (h4 : ps.length ≤ 5) (hi : inR d.cl.length ps) (k0 : ¬ (∀ y ∈ adC d.cl ps, y ≤ 9) → ∀ H', S F L H' → Q .non H') (k1 : (∀ y ∈ adC d.cl ps, y ≤ 9) → ∀ y H', S (hallP K y (adH d ps) :: F) L H' → Q (.ref y) H') : spWith K [.ref x, .ref p] H Q E :=
  ⟨F, L, x, p, d, ps, rfl, ok, m, e, h4, hi, s, k0, k1⟩
theorem c_longer (s : S F L H) (e : Ent F (tuF K p (ps.map V.int))) (c0 : 0 < c) (c1 : c ≤ 12) (hi : inR c ps) (h4 : ps.length ≤ 1000) (k : ∀ l ws H', S (dsP K ws ((ext c ps).map pd) :: F) ((l, .lst ws) :: L) H' → Q (.ref l) H') : spLonger K [.ref p, .int c] H Q E :=
  ⟨F, L, p, c, ps, rfl, c0, c1, hi, h4, e, s, k⟩
theorem c_plan (s : S F L H) (m : hallP K x d ∈ F) (ok : d.ok) (n0 : 0 ≤ n) (n4 : n ≤ 4) (k : ∀ v H', S (dtP K v (optD (fnd (Gd d) (flay d.cl.length (n.toNat + 1)))) :: F) L H' → Q v H') : spPlan K [.ref x, .int n] H Q E :=
  ⟨F, L, x, d, n, rfl, ok, m, n0, n4, s, k⟩
theorem x_gixLi {ns : List Int} {i : Int} (h : SqL K H p (ns.map V.int)) (h0 : 0 ≤ i) (h1 : i < ns.length) (q : Q (.int (ns.getD i.toNat 0)) H) : rIxL K (.ref p) (.int i) H Q := ⟨p, _, i, _, rfl, rfl, h, at_ints h0 h1, q⟩
theorem y_setLi {Q : Hp → Prop} {ns : List Int} {i z : Int} (s : S F L H) (h : Put p (.lst (ns.map V.int)) (.lst ((ns.set i.toNat z).map V.int)) L L') (h0 : 0 ≤ i) (h1 : i < ns.length) (q : ∀ H1, S F L' H1 → Q H1) : rSetL (.ref p) (.int i) (.int z) H Q := by
  rw [List.map_set] at h
  obtain ⟨j, rfl⟩ : ∃ j : Nat, i = j := ⟨i.toNat, by omega⟩
  rw [Int.toNat_natCast] at h
  exact x_setL s h (ixN_lt (by rw [List.length_map]; omega)) q
theorem x_cntT {ns : List Int} {k : Int} (h : SqT K H p (ns.map V.int)) (q : Q (.int (ns.count k : Nat)) H) : rCntT K (.ref p) [.int k] H Q := ⟨p, ns, k, rfl, rfl, h, q⟩
def kRevL (K : PySem.W.Frag) (x : V) (Q : VK) (H1 : Hp) : Prop := ∃ a xs, x = .ref a ∧ SqL K H1 a xs ∧ ∀ p, H1 p = none → Q (.ref p) (upd H1 p (.lst xs.reverse))
theorem x_revL {xs : List V} (s : S F L H) (h : SqL K H p xs) (q : ∀ r H1, S F ((r, .lst xs.reverse) :: L) H1 → Q (.ref r) H1) : kRevL K (.ref p) Q H := ⟨p, xs, rfl, h, fun r hr => q r _ (s.new hr)⟩
instance {te : TE} {σ : Sl} : Step (tRevL K te σ H Q) (te σ H fun x H1 => kRevL K x Q H1) := ⟨fun h => h⟩
instance {to ti te : TE} {tget : V → V → Hp → VK → Prop} {tip : TIp} {tset : TSet} {D : Ends} {σ : Sl} : Step (tAugS to ti te tget tip tset D σ H) (to σ H fun o H1 => ti σ H1 fun i H2 => tget o i H2 fun x H3 => te σ H3 fun y H4 => tip x y H4 fun z H5 => tset o i z H5 fun H6 => D.nx σ H6) := ⟨fun h => h⟩
end
theorem most_gd {d : HD} (h : d.ok) {ps : List Int} (h4 : ps.length ≤ 5) {v : V} (hv : MostV (adH d ps) v) : Gd d ps ↔ (∀ y ∈ adC d.cl ps, y ≤ 9) ∧ ∃ m, v = .int m ∧ m ≤ d.m := by
  constructor
  · rintro ⟨h9, g0, m, hm, hle⟩
    rcases hv.2 (ok_ad h h4 h9) with ⟨z, _⟩ | ⟨_, m', hm', rfl⟩
    · omega
    · exact ⟨h9, m', rfl, by rw [HD.most_uniq hm' hm]; exact hle⟩
  · rintro ⟨h9, m, rfl, hle⟩
    rcases hv.2 (ok_ad h h4 h9) with ⟨_, z⟩ | ⟨g0, m', hm', z⟩
    · cases z
    · cases z
      exact ⟨h9, g0, m, hm', hle⟩
/-! comprehensions with two fors -/
section
variable {K : PySem.W.Frag} {H : Hp} {Q : VK} {F : List MP} {L : List (Addr × HO)} {a b l : Addr} {g g1 : TG} {tt tt1 : TT} {te : TE} {wi wi1 : TI} {vs vs1 : List Nat} {σ σ2 σw σw1 : Sl}
def kIn (J1 : It) (g1 : TG) (tt1 : TT) (te : TE) (l : Addr) (vs1 : List Nat) (σ2 : Sl) (N : Hp → Prop) (H4 : Hp) : Prop := ∃ W1 : Nat → Nat → Hp → Prop, (∃ m, W1 0 m H4) ∧ ∀ j k H, W1 j k H →
  (J1.stop j H ∧ N H) ∨ (J1.go j H ∧ ∃ Nx1 : Hp → Prop, (∀ H', Nx1 H' → ∃ k', k' < k ∧ W1 (j + 1) k' H') ∧ ∀ x H', J1.yld j H x H' → g1 x (wipe σ2 vs1) H' fun σ3 H5 => kWip vs1 (wipe σ2 vs1) σ3 (tt1 σ3 H5 fun b H6 => if b = true then te σ3 H6 (kEnd l Nx1) else Nx1 H6))
def kLc2 (J : It) (g : TG) (tt : TT) (wi1 : TI) (g1 : TG) (tt1 : TT) (te : TE) (vs vs1 : List Nat) (σ : Sl) (H1 : Hp) (Q : VK) : Prop := ∀ D, H1 D = none → ∃ W : Nat → Nat → Hp → Prop, (∃ m, W 0 m (upd H1 D (.lst []))) ∧ ∀ i m H, W i m H →
  (J.stop i H ∧ Q (.ref D) H) ∨ (J.go i H ∧ ∃ Nx : Hp → Prop, (∀ H', Nx H' → ∃ m', m' < m ∧ W (i + 1) m' H') ∧ ∀ x H', J.yld i H x H' → g x (wipe σ vs) H' fun σ2 H2 => kWip vs (wipe σ vs) σ2 (tt σ2 H2 fun b H3 =>
    if b = true then wi1 σ2 H3 (fun J1 H4 => kIn J1 g1 tt1 te D vs1 σ2 Nx H4) else Nx H3))
theorem r_lc2 (h : wi σ H fun J H1 => kLc2 J g tt wi1 g1 tt1 te vs vs1 σ H1 Q) : tLc2 wi g tt wi1 g1 tt1 te vs vs1 σ H Q := h
instance : Step (tLc2 wi g tt wi1 g1 tt1 te vs vs1 σ H Q) (wi σ H fun J H1 => kLc2 J g tt wi1 g1 tt1 te vs vs1 σ H1 Q) := ⟨r_lc2⟩
theorem k_lc2L (xs : List V) (hw : Wip vs σ σw) (s : S F L H) (I : Addr → Nat → Hp → Prop) (h0 : ∀ l H1, S F ((l, .lst []) :: L) H1 → I l 0 H1) (hq : ∀ l i H1, i ≤ xs.length → I l i H1 → SqL K H1 a xs)
    (hs : ∀ l i x H1, xs[i]? = some x → I l i H1 → g x σw H1 fun σ2 H2 => kWip vs σw σ2 (tt σ2 H2 fun b H3 => if b = true then wi1 σ2 H3 (fun J1 H4 => kIn J1 g1 tt1 te l vs1 σ2 (I l (i + 1)) H4) else I l (i + 1) H3))
    (hd : ∀ l H1, I l xs.length H1 → Q (.ref l) H1) : kLc2 (Itl K a) g tt wi1 g1 tt1 te vs vs1 σ H Q := fun l hl => by
  have e := hw.eq
  subst e
  refine ⟨fun i m H => m = xs.length - i ∧ i ≤ xs.length ∧ I l i H, ⟨xs.length, by simp, Nat.zero_le _, h0 l _ (s.new hl)⟩, ?_⟩
  rintro i m H ⟨rfl, hi, p⟩
  have q := hq l i H hi p
  by_cases hlt : i < xs.length
  · refine .inr ⟨⟨xs, xs[i], q, by simp [hlt]⟩, I l (i + 1), fun H' p' => ⟨xs.length - (i + 1), by omega, rfl, hlt, p'⟩, fun x H' y => ?_⟩
    obtain ⟨e, y⟩ := y
    subst e
    exact hs l i x _ (y xs q) p
  · have e : i = xs.length := by omega
    subst e
    exact .inl ⟨⟨xs, q, Nat.le_refl _⟩, hd l H p⟩
theorem k_inL {N : Hp → Prop} (ys : List V) (hw : Wip vs1 σ2 σw1) (I1 : Nat → Hp → Prop) (h0 : I1 0 H) (hq : ∀ j H, j ≤ ys.length → I1 j H → SqL K H b ys)
    (hs : ∀ j y H1, ys[j]? = some y → I1 j H1 → g1 y σw1 H1 fun σ3 H5 => kWip vs1 σw1 σ3 (tt1 σ3 H5 fun b H6 => if b = true then te σ3 H6 (kEnd l (I1 (j + 1))) else I1 (j + 1) H6))
    (hd : ∀ H, I1 ys.length H → N H) : kIn (Itl K b) g1 tt1 te l vs1 σ2 N H := by
  have e := hw.eq
  subst e
  refine ⟨fun i m H => m = ys.length - i ∧ i ≤ ys.length ∧ I1 i H, ⟨ys.length, by simp, Nat.zero_le _, h0⟩, ?_⟩
  rintro i m H ⟨rfl, hi, p⟩
  have q := hq i H hi p
  by_cases hlt : i < ys.length
  · refine .inr ⟨⟨ys, ys[i], q, by simp [hlt]⟩, I1 (i + 1), fun H' p' => ⟨ys.length - (i + 1), by omega, rfl, hlt, p'⟩, fun x H' y => ?_⟩
    obtain ⟨e, y⟩ := y
    subst e
    exact hs i x _ (y ys q) p
  · have e : i = ys.length := by omega
    subst e
    exact .inl ⟨⟨ys, q, Nat.le_refl _⟩, hd H p⟩
end
end TW
namespace TW
open PySem PySem.Spec PyProof.Rows L2
/-! ### tuples known to have no dict: their methods -/
/-- a plain tuple -/
def PlT (H : Hp) (p : Addr) (xs : List V) : Prop := ∃ o : Obj, o.dict = none ∧ H p = some (.frz o (.tup xs))
theorem PlT.sq {K : PySem.W.Frag} {H : Hp} {p : Addr} {xs : List V} (h : PlT H p xs) : SqT K H p xs := .inl (.inr ⟨_, h.choose_spec.2⟩)
def tTupF (t : TA) : TE := fun σ H Q => t σ H fun xs H1 => xs.length ≤ sizeLine ∧ ∀ p H2, H1 p = none → (∃ o : Obj, o.dict = none ∧ H2 = upd H1 p (.frz o (.tup xs))) → Q (.ref p) H2
def rCatF (K : PySem.W.Frag) : R2 := fun x y H Q => ∃ a b xs ys, x = .ref a ∧ y = .ref b ∧ PlT H a xs ∧ PlT H b ys ∧ ys ≠ [] ∧ xs.length + ys.length ≤ sizeLine ∧
  (xs = [] → Q (.ref b) H) ∧ (xs ≠ [] → ∀ p H2, H p = none → (∃ o : Obj, o.dict = none ∧ H2 = upd H p (.frz o (.tup (xs ++ ys)))) → Q (.ref p) H2)
def tBMT (r : V → List V → Hp → VK → Prop) (to : TE) (t : TA) : TE := fun σ H Q => to σ H fun x H1 => (∃ p xs, x = .ref p ∧ PlT H1 p xs) ∧ t σ H1 fun vs H2 => r x vs H2 Q
section
variable {X : Cx} {es : List Expr} {t : TA} {pos : Pos}
theorem pe_tupF {x1} (h : PA X es t) : PE X (.Tuple es x1 pos) (tTupF t) := by
  refine ⟨fun pins s σ H Q I hq => ?_⟩
  refine wpAny_Tuple_spliced (thn (h.run pos pins s σ H _ I hq) fun us s1 ⟨xs, H1, I1, r, z, q⟩ => ⟨by rw [← r.length]; exact z, ?_⟩)
  have hf : H1 s1.heap.objs.size = none := I1.hok.fresh (Nat.le_refl _)
  refine ⟨.ref s1.heap.objs.size, upd H1 s1.heap.objs.size (.frz _ (.tup xs)), I1.laid (t' := s1.toks) (fun b u e => Heap.get?_push_of_some _ e) (Nat.le_refl _) ?_, rfl, q _ _ hf ⟨{ cls := .type "tuple", data := .seq us.toArray 0 }, rfl, rfl⟩⟩
  exact ⟨Heap.get?_push_size _ rfl, z, us, r, ⟨_, Heap.get?_push_size _ rfl, rfl, _, rfl⟩⟩
theorem op_catF : OpR X (binaryOp .Add) (rCatF X.K) := by
  intro pins s σ H x y v u Q I rx ry h
  obtain ⟨a, b, xs, ys, rfl, rfl, ha, hb, hy, hz, q0, q2⟩ := h
  by_cases hx : xs = []
  · subst hx
    cases rx
    cases ry
    obtain ⟨its, r1, p1, _⟩ := I.tuple ha.sq
    obtain ⟨its2, r2, p2, _⟩ := I.tuple hb.sq
    cases r1
    exact cat_tup0 p1 p2 ⟨.ref b, H, I, rfl, q0 rfl⟩
  · cases rx
    cases ry
    obtain ⟨its, r1, p1, _⟩ := I.tuple ha.sq
    obtain ⟨its2, r2, p2, _⟩ := I.tuple hb.sq
    refine HT.cat_tup p1 p2 (fun z => hx (r1.nil_iff.mp z)) (fun z => absurd (r2.nil_iff.mp z) hy) (fun z => ?_) (by rw [← r1.length, ← r2.length]; exact hz)
    refine ⟨.ref s.heap.objs.size, _, I.laid (t' := s.toks) (o := .frz { cls := .type "tuple", data := .seq (its ++ its2).toArray } (.tup (xs ++ ys))) (fun b ob q => Heap.get?_push_of_some _ q) (Nat.le_refl _) ?_, rfl, q2 hx _ _ (I.hok.fresh (Nat.le_refl _)) ⟨_, rfl, rfl⟩⟩
    exact ⟨Heap.get?_push_size _ rfl, by rw [List.length_append]; exact hz, _, r1.append r2, IsTup.new _ _⟩
theorem pe_bmt {o e : Expr} {to : TE} {name : Str} {apos cpos : Pos} {id : String} {r : V → List V → Hp → VK → Prop} (pa : PlainAttrs "tuple") (slot : Slot "tuple" name id) (hty : typeOf (.builtin id) = pure (.type "method_descriptor")) (hm : MtR X id r) (ho : PE X o to) (ha : PA X (e :: es) t)
    (hbase : attributeBase o name X.env (eval o X.env) = eval o X.env := by rfl)
    (hfew : ((backTo cpos (starEach (e :: es) X.env)).all (fun x => !x.1) && (backToKw cpos (keywordEach [] X.env)).all (fun x => x.1.isSome)
      && decide ((e :: es).length + ([] : List Keyword).length + (if ([] : List Keyword).isEmpty then 0 else 1) < 30)) = true := by rfl)
    (hline : (apos.endLine == cpos.line) = true := by rfl) (hs : starEach (e :: es) X.env = (false, eval e X.env) :: starEach es X.env := by rfl) (hplain : (backTo cpos (starEach es X.env)).any (·.1) = false := by rfl) :
    PE X (.Call (.Attribute o name apos) (e :: es) [] cpos) (tBMT r to t) := by
  refine ⟨fun pins s σ H Q I h => ?_⟩
  refine wpAny_Call_method_late hbase hfew hline rfl (thn (ho.run pins s σ H _ I h) fun v s1 ⟨x, H1, I1, r1, ty, q1⟩ => ?_)
  have hh : s1.TypeIs v "tuple" ∧ ∀ a, v = .ref a → ∃ ob, s1.heap.get? a = some ob ∧ ob.dict = none := by
    obtain ⟨p, xs, rfl, ob, hd, hp⟩ := ty
    cases r1
    obtain ⟨e1, _, its, _, ht⟩ := I1.hok p _ hp
    exact ⟨ht.typeIs, fun a e => by cases e; exact ⟨ob, e1, hd⟩⟩
  obtain ⟨h1, h2⟩ := hh
  refine ⟨"tuple", id, pa, slot, hty, h1, h2, ?_⟩
  have hA := ha.run cpos pins s1 σ H1 _ I1 q1
  rw [hs] at hA ⊢
  refine Calls.callWith_builtin (by show (false || (backTo cpos (starEach es X.env)).any (·.1)) = false; rw [hplain] <;> rfl) (Calls.evalArgs_plain ?_)
  exact thn hA fun us s2 ⟨vs, H2, I2, r2, q2⟩ => hm pins s2 σ H2 x vs v us Q I2 r1 r2 q2
end
/-! facts -/
section
variable {K : PySem.W.Frag} {H : Hp} {Q : VK} {F : List MP} {L : List (Addr × HO)} {p q : Addr} {xs ys : List V} {vs ws lvs : List V} {c : Int} {n : Nat} {pss : List (List Int)}
theorem PlT.mono {E E' : Hp} (e : Same E E') (h : PlT E p xs) : PlT E' p xs := let ⟨o, h1, h2⟩ := h; ⟨o, h1, e _ _ h2⟩
def tuD (p : Addr) (xs : List V) : MP := ⟨fun E => PlT E p xs, fun _ _ e h => h.mono e⟩
theorem d_bmt {X : Cx} {o e : Expr} {es : List Expr} {t : TA} {to : TE} {name : Str} {apos cpos : Pos} {id : String} {r : V → List V → Hp → VK → Prop} (pa : PlainAttrs "tuple") (slot : Slot "tuple" name id) (hty : typeOf (.builtin id) = pure (.type "method_descriptor")) (hm : MtR X id r) (ho : PE X o to) (ha : PA X (e :: es) t)
    (hbase : attributeBase o name X.env (eval o X.env) = eval o X.env := by rfl)
    (hfew : ((backTo cpos (starEach (e :: es) X.env)).all (fun x => !x.1) && (backToKw cpos (keywordEach [] X.env)).all (fun x => x.1.isSome)
      && decide ((e :: es).length + ([] : List Keyword).length + (if ([] : List Keyword).isEmpty then 0 else 1) < 30)) = true := by rfl)
    (hline : (apos.endLine == cpos.line) = true := by rfl) (hs : starEach (e :: es) X.env = (false, eval e X.env) :: starEach es X.env := by rfl) (hplain : (backTo cpos (starEach es X.env)).any (·.1) = false := by rfl) :
    PE X (.Call (.Attribute o name apos) (e :: es) [] cpos) (tBMT r to t) := pe_bmt pa slot hty hm ho ha hbase hfew hline hs hplain
theorem d_addF {X : Cx} {a b : Expr} {ta tb : TE} {pos : Pos} (K) (ha : PE X a ta) (hb : PE X b tb) (hK : X.K = K := by rfl) : PE X (.BinOp a .Add b pos) (tOp (rCatF K) ta tb) := by
  subst hK; exact pe_op op_catF ha hb
def kNewF (xs : List V) (H1 : Hp) (Q : VK) : Prop := xs.length ≤ sizeLine ∧ ∀ p H2, H1 p = none → (∃ o : Obj, o.dict = none ∧ H2 = upd H1 p (.frz o (.tup xs))) → Q (.ref p) H2
instance {t : TA} {σ : Sl} : Step (tTupF t σ H Q) (t σ H fun xs H1 => kNewF xs H1 Q) := ⟨fun h => h⟩
def kPl (x : V) (R : Prop) (H1 : Hp) : Prop := (∃ p xs, x = .ref p ∧ PlT H1 p xs) ∧ R
instance {r : V → List V → Hp → VK → Prop} {to : TE} {t : TA} {σ : Sl} : Step (tBMT r to t σ H Q) (to σ H fun x H1 => kPl x (t σ H1 fun vs H2 => r x vs H2 Q) H1) := ⟨fun h => h⟩
theorem x_pl {R : Prop} (s : S F L H) (h : tuD p xs ∈ F) (q : R) : kPl (.ref p) R H := ⟨⟨p, xs, rfl, s.phi h⟩, q⟩
theorem S.newD (s : S F L H) {H2 : Hp} (h : H p = none) (e : ∃ o : Obj, o.dict = none ∧ H2 = upd H p (.frz o (.tup xs))) : S (tuD p xs :: F) L H2 := by
  obtain ⟨o, hd, rfl⟩ := e
  refine (((s.newF h).put_ (tuD p xs) (fun E e => ⟨o, hd, e _ List.mem_cons_self⟩)).sub ?_ (List.Sublist.refl _))
  exact (List.sublist_cons_self _ _).cons_cons _
theorem x_newF (s : S F L H) (hl : xs.length ≤ sizeLine) (q : ∀ p H1, S (tuD p xs :: F) L H1 → Q (.ref p) H1) : kNewF xs H Q := ⟨hl, fun p H2 hp e => q p H2 (s.newD hp e)⟩
theorem x_catF (s : S F L H) (e1 : tuD p xs ∈ F) (e2 : tuD q ys ∈ F) (hy : ys ≠ []) (hl : xs.length + ys.length ≤ sizeLine) (k : ∀ r H1, S (tuD r (xs ++ ys) :: F) L H1 → Q (.ref r) H1) : rCatF K (.ref p) (.ref q) H Q := by
  refine ⟨p, q, xs, ys, rfl, rfl, s.phi e1, s.phi e2, hy, hl, fun z => ?_, fun _ r H2 hr e => k r H2 (s.newD hr e)⟩
  subst z
  exact k q _ (s.put_ _ (Ent.mem e2))
theorem q_T5 (s : S F L H) (h : tuD p xs ∈ F) : SqT K H p xs := PlT.sq (s.phi h)
theorem Ent.plT (h : tuD p xs ∈ F) : Ent F (tuF K p xs) := fun E e => PlT.sq (e _ h)
/-- values that are plain tuples of ints -/
def tfP (vs : List V) (pss : List (List Int)) : MP := ⟨fun E => vs.length = pss.length ∧ ∀ (i : Nat) v, vs[i]? = some v → ∃ q ps, v = .ref q ∧ pss[i]? = some ps ∧ PlT E q (ps.map V.int),
  fun _ _ e ⟨h1, h2⟩ => ⟨h1, fun i v hv => let ⟨q, ps, a, b, c⟩ := h2 i v hv; ⟨q, ps, a, b, c.mono e⟩⟩⟩
theorem Ent.tnil : Ent F (tfP [] []) := fun _ _ => ⟨rfl, fun _ _ z => by cases z⟩
theorem Ent.tapp {pss qss : List (List Int)} (h1 : Ent F (tfP vs pss)) (h2 : Ent F (tfP ws qss)) : Ent F (tfP (vs ++ ws) (pss ++ qss)) := fun E e => by
  obtain ⟨a1, a2⟩ := h1 E e
  obtain ⟨b1, b2⟩ := h2 E e
  refine ⟨by rw [List.length_append, List.length_append, a1, b1], fun i v hv => ?_⟩
  by_cases hi : i < vs.length
  · rw [List.getElem?_append_left hi] at hv
    rw [List.getElem?_append_left (by omega)]
    exact a2 i v hv
  · rw [List.getElem?_append_right (by omega)] at hv
    rw [List.getElem?_append_right (by omega), ← a1]
    exact b2 _ v hv
theorem Ent.tone {ps : List Int} (h : tuD p (ps.map V.int) ∈ F) : Ent F (tfP [.ref p] [ps]) := fun E e => ⟨rfl, fun i v hv => by
  cases i with
  | zero => cases hv; exact ⟨p, ps, rfl, rfl, e _ h⟩
  | succ i => cases hv⟩
theorem S.tfLen (s : S F L H) (m : tfP vs pss ∈ F) : vs.length = pss.length := (s.phi m).1
theorem S.tfGet {i : Nat} {v : V} (s : S F L H) (m : tfP vs pss ∈ F) (hv : vs[i]? = some v) : ∃ q ps, v = .ref q ∧ pss[i]? = some ps ∧ S (tuD q (ps.map V.int) :: F) L H := by
  obtain ⟨E, h1, h2, h3⟩ := s.ex
  obtain ⟨q, ps, rfl, hp, _⟩ := (h2 _ m).2 i v hv
  refine ⟨q, ps, rfl, hp, s.put_ _ fun E e => ?_⟩
  obtain ⟨q', ps', e1, hp', w⟩ := (e _ m).2 i _ hv
  cases e1
  rw [hp] at hp'
  cases hp'
  exact w
/-- a list of the layers -/
def lvP (K : PySem.W.Frag) (lvs : List V) (c : Int) (n : Nat) : MP := ⟨fun E => lvs.length = n ∧ ∀ (i : Nat) v, lvs[i]? = some v → ∃ q vs, v = .ref q ∧ SqL K E q vs ∧ (tfP vs (lay c i)).1 E,
  fun _ _ e ⟨h1, h2⟩ => ⟨h1, fun i v hv => let ⟨q, vs, a, b, d⟩ := h2 i v hv; ⟨q, vs, a, sqL_mono e b, (tfP vs (lay c i)).2 _ _ e d⟩⟩⟩
theorem Ent.lone (h : Ent F (liF K p vs)) (h2 : Ent F (tfP vs (lay c 0))) : Ent F (lvP K [.ref p] c 1) := fun E e => ⟨rfl, fun i v hv => by
  cases i with
  | zero => cases hv; exact ⟨p, vs, rfl, h E e, h2 E e⟩
  | succ i => cases hv⟩
theorem Ent.lsnoc (h0 : Ent F (lvP K lvs c n)) (h : Ent F (liF K p vs)) (h2 : Ent F (tfP vs (lay c n))) : Ent F (lvP K (lvs ++ [.ref p]) c (n + 1)) := fun E e => by
  obtain ⟨a1, a2⟩ := h0 E e
  refine ⟨by rw [List.length_append, a1]; rfl, fun i v hv => ?_⟩
  by_cases hi : i < lvs.length
  · rw [List.getElem?_append_left hi] at hv
    exact a2 i v hv
  · rw [List.getElem?_append_right (by omega)] at hv
    have hlt := (List.getElem?_eq_some_iff.mp hv).1
    rw [List.length_singleton] at hlt
    have ei : i = n := by omega
    subst ei
    rw [show i - lvs.length = 0 by omega] at hv
    cases hv
    exact ⟨p, vs, rfl, h E e, h2 E e⟩
theorem S.lvLen (s : S F L H) (m : lvP K lvs c n ∈ F) : lvs.length = n := (s.phi m).1
theorem S.lvGet {i : Nat} {v : V} (s : S F L H) (m : lvP K lvs c n ∈ F) (hv : lvs[i]? = some v) : ∃ q vs, v = .ref q ∧ S (liF K q vs :: tfP vs (lay c i) :: F) L H := by
  obtain ⟨E, h1, h2, h3⟩ := s.ex
  obtain ⟨q, vs, rfl, a1, a2⟩ := (h2 _ m).2 i v hv
  refine ⟨q, vs, rfl, ⟨E, h1, fun f hf => ?_, h3⟩, s.cell, s.nd⟩
  rcases List.mem_cons.mp hf with rfl | hf
  · exact a1
  rcases List.mem_cons.mp hf with rfl | hf
  · exact a2
  exact h2 f hf
end
end TW
namespace TW
open PySem PySem.Spec PyProof.Rows L2
/-! ### sorted(set(xs)), a list of ints -/
/-- a set at its birth -/
abbrev born (w : World) : Obj := { cls := .type "set", dict := none, data := .set #[] 0 (.fresh 0 0 (!w.params.followText "set-order")) }
section
variable {P : Program} {w : World} {A : Around} {E : Value → Shared → Prop} {s : Shared}
/-- the members taken in one by one -/
theorem takeIn {I S : Addr} {fp wr : List Addr} {G : Array GenState → Array GenState → Prop} {n : Nat} {Pv : Nat → Value → Prop} {St : Nat → Shared → Prop} {R : Result → Shared → Prop} {ns : List Int}
    (W : WalksS P w A.in1 I fp wr G n Pv St) (out : S ∉ fp) (hn : n = ns.length) (room : ∀ (h : Heap) (i c : Nat), SetR w h S (fun j => decide (j ∈ ns.take i)) c → c + 1 < scanBound) (hv : ∀ i v, Pv i v → ∃ k t, ns[i]? = some k ∧ v = .int k t) :
    ∀ (todo i : Nat) (s : Shared), i + todo = n → St i s → (∃ c, SetR w s.heap S (fun j => decide (j ∈ ns.take i)) c) →
      (∀ s' c, Moved (S :: wr) G s s' → SetR w s'.heap S (fun j => decide (j ∈ ns)) c → R (.ok (.ret .none)) s') → codeAny (model P w) A (.builtin "set.update.loop" ⟨[.ref S, .ref I], []⟩) R s := by
  have far : S ∉ wr := fun h => out (W.sub _ h)
  have up : ∀ b ∈ wr, b ∈ S :: wr := fun b hb => List.mem_cons_of_mem _ hb
  intro todo
  induction todo with
  | zero =>
    rintro i s rfl hst ⟨c, hc⟩ fin
    refine codeAny_builtin F.entry_set_update_loop ?_
    rw [Around.under_plainId F.plain_set_update_loop _]
    refine wpAny_bind (m := pyNext (.ref I)) (W.done s _ _ hst fun s' hm => wpAny_pure ?_)
    rw [List.take_of_length_le (by omega)] at hc
    exact fin s' c (hm.mono up) (hc.at fun o e => hm.heap S o far e)
  | succ todo ih =>
    rintro i s rfl hst ⟨c, hc⟩ fin
    refine codeAny_builtin F.entry_set_update_loop ?_
    rw [Around.under_plainId F.plain_set_update_loop _]
    refine wpAny_bind (m := pyNext (.ref I)) (W.item i s _ _ (by omega) hst fun v s' hP hst' hm => ?_)
    obtain ⟨z, t, hz, rfl⟩ := hv i v hP
    have hc' := hc.at (h' := s'.heap) fun o e => hm.heap S o far e
    refine wpAny_bind (m := holding [Value.int z t] (setAdd S (.int z t))) (wpAny_holding (wpAny_holding ?_))
    refine wpAny_bind ((intKind P w).pyHash (k := z) (intKind_is _ _ _ _) (setR_add_hashed (s := { s' with toks := s'.toks + 1 }) hc' (room _ _ _ hc') fun h' sb hc2 => ?_))
    have hc3 := hc2.congr (S' := fun j => decide (j ∈ ns.take (i + 1))) fun j => by
      rw [List.take_add_one, hz]
      simp [List.mem_append]
    refine wpAny_pure ⟨plainId_quiet F.plain_set_update_loop _, ih (i + 1) _ (by omega) (W.frame _ s' _ _ hst' (Nat.le_succ _) fun b hb o e => (sb.2 b fun z => out (z ▸ hb)).trans e) ⟨_, hc3⟩ fun s2 c2 hm2 r => ?_⟩
    exact fin s2 c2 (Moved.trans W.gtrans ((hm.mono up).then_heap (Nat.le_succ _) fun b o hb e => (sb.2 b fun z => hb (z ▸ List.mem_cons_self)).trans e) hm2) r
/-- set.__init__ of a list of ints -/
theorem initIn {S l : Addr} {items : Array Value} {ns : List Int} {R : PySem.Fin → Shared → Prop} (cold : A.handled = none) (hS : s.heap.get? S = some (born w)) (hl : s.heap.IsList l items) (hi : IntsAre items.toList ns) (ne : S < s.heap.objs.size)
    (room : ∀ (h : Heap) (i c : Nat), SetR w h S (fun j => decide (j ∈ ns.take i)) c → c + 1 < scanBound)
    (fin : ∀ (h' : Heap) (tk c : Nat), SetR w h' S (fun j => decide (j ∈ ns)) c → (∀ b o, b ≠ S → s.heap.get? b = some o → h'.get? b = some o) → R (.done (.ret .none)) { s with heap := h', toks := tk }) :
    wpAny (model P w) A (Builtin.«set.__init__» ⟨[.ref S, .ref l], []⟩) R E s := by
  obtain ⟨⟨cls, dd, dat, sl⟩, ho, hc, n, hd⟩ := hl
  simp only at hc hd
  subst hc hd
  have hT : s.TypeIs (.ref S) "set" := ⟨_, hS, rfl⟩
  have q1 := F.sub_list_set
  have q2 := F.sub_list_frozenset
  have q3 : (Value.type "list" == Value.type "dict") = false := by decide
  unfold Builtin.«set.__init__» noKeywords Builtin.Frozenset.updateFrom
  generalize hPI : pyIter = PI
  wp_walk
  subst hPI
  have hlS : l < s.heap.objs.size := Heap.lt_size ho
  have hL : s.heap.IsList l items := ⟨_, ho, rfl, n, rfl⟩
  have cold3 : A.in1.handled = none := by simp [cold]
  have hlI : l ≠ s.heap.objs.size := Nat.ne_of_lt hlS
  have hSI : S ≠ s.heap.objs.size := Nat.ne_of_lt ne
  have hSl : S ≠ l := fun z => by
    subst z
    have z := congrArg Obj.cls (Option.some.inj (hS.symm.trans ho))
    injection z with z
    exact absurd z (by decide)
  refine wpAny_pyIter_list hL (wpAny_bind (wpAny_runValue ?_))
  refine takeIn (P := P) (A := A) (ns := ns) ((Walks.list cold3 _ l hlI items).toS) (by simp [hSI, hSl]) (by rw [← hi.length, Array.length_toList]) room (fun i v hv => ?_) items.size 0 { s with heap := s.heap.push { cls := .type "list_iterator", data := .fields #[.ref l, .int 0 0] } } (by omega)
    ⟨⟨_, Heap.get?_push_size _ rfl, rfl, rfl⟩, hL.push _⟩ ⟨0, setR_new_at (Heap.get?_push_of_some _ hS)⟩ fun s' c hm hR => ?_
  · have hlt := (Array.getElem?_eq_some_iff.mp hv).1
    obtain ⟨t, e⟩ := IntsAre.int_at hi i v (by rw [Array.getElem?_toList]; exact hv)
    have hn : i < ns.length := by rw [← hi.length, Array.length_toList]; exact hlt
    exact ⟨ns[i], t, List.getElem?_eq_getElem hn, by rw [e, List.getD_eq_getElem?_getD, List.getElem?_eq_getElem hn]; rfl⟩
  · obtain ⟨h', g', d', tk', os'⟩ := s'
    cases (show g' = s.gens from hm.gens)
    cases (show d' = s.drawn from hm.drawn)
    cases (show os' = s.os from hm.os)
    refine wpAny_pure (wpAny_pure (fin h' tk' c hR fun b o hb e => ?_))
    exact hm.heap b o (by simp [hb, Nat.ne_of_lt (Heap.lt_size e)]) (Heap.get?_push_of_some _ e)
/-- set(xs) -/
theorem callSet {l : Addr} {items : Array Value} {ns : List Int} {Q : Value → Shared → Prop} (cold : A.handled = none) (hl : s.heap.IsList l items) (hi : IntsAre items.toList ns)
    (room : ∀ (h : Heap) (i c : Nat), SetR w h s.heap.objs.size (fun j => decide (j ∈ ns.take i)) c → c + 1 < scanBound)
    (h : ∀ (h' : Heap) (tk c : Nat), SetR w h' s.heap.objs.size (fun j => decide (j ∈ ns)) c → (∀ b o, s.heap.get? b = some o → h'.get? b = some o) → Q (.ref s.heap.objs.size) { s with heap := h', toks := tk }) :
    wpAny (model P w) A (call (.type "set") [.ref l]) Q E s := by
  have K := F.called_set
  obtain ⟨c, tl, hmro⟩ := K.mro
  have k1 := K.made
  have k2 := K.sub
  have k3 := K.notType
  have k4 := K.canCreate
  have k5 := F.typeCall_set_1 (.ref l)
  have k6 := K.init.lookup
  refine wpAny_call (codeAny_of_tree ?_)
  show wpAny _ _ (callAny (.type "set") _) _ _ _
  refine wpAny_pure ⟨Code.quiet_builtin _ (by decide +kernel), codeAny_builtin F.entry_type_call ?_⟩
  rw [Around.under_plain (weight_type_call_type "set" [.ref l] []) rfl]
  repeat (any_goals (first | assumption | wp_step))
  refine codeAny_mono (code_set_led1 (.ref l) (E := E) (Q₁ := fun v s1 => v = .ref s.heap.objs.size ∧ s1 = { s with heap := s.heap.push (born w) }) ⟨rfl, rfl⟩) fun r s1 hr => ?_
  match r, hr with
  | .error _, hr => exact hr
  | .ok (.ret _), hr =>
    obtain ⟨rfl, rfl⟩ := hr
    have hS : (s.heap.push (born w)).get? s.heap.objs.size = some (born w) := Heap.get?_push_size _ rfl
    have hT : Shared.TypeIs { s with heap := s.heap.push (born w) } (.ref s.heap.objs.size) "set" := ⟨_, hS, rfl⟩
    have k7 := K.init.bind (.ref s.heap.objs.size)
    repeat (any_goals (first | assumption | wp_step))
    refine codeAny_mono (codeAny_call_builtin (R := wants (fun r s2 => r = .none ∧ ∃ h' tk c, s2 = { s with heap := h', toks := tk } ∧ SetR w h' s.heap.objs.size (fun j => decide (j ∈ ns)) c ∧ ∀ b o, s.heap.get? b = some o → h'.get? b = some o) E) K.init.plain F.entry_set_init
      (check_set_init_1 hT (initIn (by simp [cold]) hS (hl.push _) hi (Heap.lt_size hS) room fun h' tk c hR hk => ⟨rfl, h', tk, c, rfl, hR, fun b o e => hk b o (Nat.ne_of_lt (Heap.lt_size e)) (Heap.get?_push_of_some _ e)⟩))) fun r s2 hr => ?_
    match r, hr with
    | .error _, hr => exact hr
    | .ok (.ret _), hr =>
      obtain ⟨rfl, h', tk, c, rfl, hR, hk⟩ := hr
      repeat (any_goals (first | assumption | wp_step))
      exact h _ _ _ hR hk
end
end TW
namespace TW
open PySem PySem.Spec PyProof.Rows L2
theorem lt_strict : ∀ {l : List Int}, l.Pairwise (· ≤ ·) → l.Nodup → Asc l
  | [], _, _ => True.intro
  | x :: l, h, d => by
    obtain ⟨h1, h2⟩ := List.pairwise_cons.mp h
    obtain ⟨d1, d2⟩ := List.nodup_cons.mp d
    refine ⟨fun y hy => ?_, lt_strict h2 d2⟩
    have a := h1 y hy
    have b : x ≠ y := fun z => d1 (z ▸ hy)
    omega
/-- distinct numbers below B are at most B -/
theorem nodup_le : ∀ {B : Nat} {l : List Int}, l.Nodup → (∀ x ∈ l, 0 ≤ x ∧ x < B) → l.length ≤ B
  | 0, l, _, h => by
    cases l with
    | nil => exact Nat.le_refl _
    | cons x r =>
      have := h x List.mem_cons_self
      omega
  | B + 1, l, d, h => by
    have ih := nodup_le (B := B) (l := l.filter fun x => decide (x ≠ (B : Int))) (d.filter _) fun x hx => by
      obtain ⟨h1, h2⟩ := List.mem_filter.mp hx
      have := h x h1
      have := of_decide_eq_true h2
      omega
    have c : (l.filter fun x => decide (x = (B : Int))).length ≤ 1 := by
      have := d.count (a := (B : Int))
      rw [List.count_eq_length_filter] at this
      have e : (l.filter fun x => decide (x = (B : Int))) = l.filter (· == (B : Int)) := List.filter_congr fun x _ => rfl
      rw [e, this]
      split <;> omega
    have s : (l.filter fun x => decide (x ≠ (B : Int))).length + (l.filter fun x => decide (x = (B : Int))).length = l.length := by
      clear ih c h d
      induction l with
      | nil => rfl
      | cons x r ih =>
        by_cases e : x = (B : Int)
        · simp [e] at ih ⊢
          omega
        · simp [e] at ih ⊢
          omega
    omega
theorem nodup_sub : ∀ {l ns : List Int}, l.Nodup → (∀ x ∈ l, x ∈ ns) → l.length ≤ ns.length
  | [], _, _, _ => Nat.zero_le _
  | x :: l, ns, d, h => by
    obtain ⟨d1, d2⟩ := List.nodup_cons.mp d
    have hx := h x List.mem_cons_self
    have ih := nodup_sub (ns := ns.erase x) d2 fun y hy => (List.mem_erase_of_ne (fun z => d1 (by rw [← z]; exact hy))).mpr (h y (List.mem_cons_of_mem _ hy))
    have e := List.length_erase_of_mem hx
    have := List.length_pos_of_mem hx
    rw [List.length_cons]
    omega
section
variable {P : Program} {w : World} {A : Around} {E : Value → Shared → Prop} {s : Shared}
theorem setR_le {h : Heap} {a : Addr} {M : Int → Bool} {n B : Nat} (R : SetR w h a M n) (hb : ∀ k, M k = true → 0 ≤ k ∧ k < B) : n ≤ B := by
  obtain ⟨o, es, ep, t, ho, ex, hd, good, nd, mem, lim, fit, hn, ris, led⟩ := R
  have := nodup_le nd fun x hx => hb x ((mem x).mpr hx)
  rw [List.length_map, Array.length_toList, hn] at this
  exact this
/-- sorted(a set) -/
theorem sortSet {a : Addr} {M : Int → Bool} {n : Nat} {Q : Value → Shared → Prop} (R : SetR w s.heap a M n) (cold : A.handled = none)
    (fin : ∀ s' p (out : Array Value) (c : Nat) (zs : List Int), (∀ b o, s.heap.get? b = some o → s'.heap.get? b = some o) → s'.gens = s.gens → s'.os = s.os → s.heap.objs.size ≤ p →
      s'.heap.get? p = some (seqObj "list" out c) → IntsAre out.toList zs → Asc zs → (∀ k, k ∈ zs ↔ M k = true) → zs.length = n → n < scanBound → Q (.ref p) s') :
    wpAny (model P w) A (call (.builtin "sorted") [.ref a]) Q E s := by
  obtain ⟨o, es, ep, t, ho, ex, hd, good, nd, mem, lim, fit, hn, ris, led⟩ := R
  refine Calls.call_function_entry kind_sorted plain_sorted entry_sorted (args_sorted1 _) ?_
  unfold Builtin.«sorted»
  refine wpAny_bind (m := checkCount "sorted" 1 1 _) (wpAny_pure ?_)
  refine wpAny_bind (collect_set (A := A.in1) cold ⟨o, ho, ex.1, hd⟩ fit lim ris led fun s1 vs old grown g1 o1 pm => ?_)
  have len : vs.length = n := by rw [pm.length_eq, List.length_map, Array.length_toList, hn]
  have keys : (vs.map SrtO.iv).Perm (es.toList.map keyOf) := by
    have q := pm.map SrtO.iv
    rw [List.map_map] at q
    exact q
  have vals : IntsAre vs (vs.map SrtO.iv) := SrtO.ints_iv fun v hv => by
    obtain ⟨e, he, q⟩ := List.mem_map.mp (pm.mem_iff.mp hv)
    obtain ⟨k, tk, h1, _⟩ := good e he
    exact ⟨k, tk, q ▸ h1⟩
  have small : vs.length ≤ sizeLine := by
    rw [len, ← hn, sizeLine_eq]
    unfold scanBound at lim
    omega
  refine wpAny_bind (wpAny_newList ?_ small)
  have born : (s1.heap.push (seqObj "list" vs.toArray 0)).get? s1.heap.objs.size = some (seqObj "list" vs.toArray 0) := Heap.get?_push_size _ rfl
  refine wpAny_bind (wpAny_holding (wpAny_call_entry slot_list_sort ⟨_, born, rfl⟩ entry_list_sort (SrtO.list_sort_ord SrtO.swo_int born small (fun h2 => SrtO.ints_sortable vals h2) fun out u1 u2 => ⟨_, rfl, ?_⟩) (args_list_sort _)))
  obtain ⟨z1, z2, z3⟩ := SrtO.ints_out vals u1 u2
  have z4 := z2.trans keys
  obtain ⟨c, hc⟩ := sortedHeap_at (vs := vs) (out := out.toArray) born
  refine wpAny_pure ⟨_, rfl, fin _ s1.heap.objs.size out.toArray c (out.map SrtO.iv) (fun b u e => ?_) g1 o1 grown hc z1 (lt_strict z3 (z4.nodup_iff.mpr nd)) (fun k => ?_) ?_ (hn ▸ lim)⟩
  · have hlt := Heap.lt_size (old b u e)
    refine (sortedHeap_old (vs := vs) (out := out.toArray) (Nat.ne_of_lt hlt) ?_).trans (Heap.get?_push_of_some _ (old b u e))
    rw [size_push']
    exact Nat.lt_succ_of_lt hlt
  · rw [z4.mem_iff, ← mem k]
  · rw [z4.length_eq, List.length_map, Array.length_toList, hn]
end
/-- sorted(set(xs)) -/
def tSrtSet (K : PySem.W.Frag) (te : TE) : TE := fun σ H Q => te σ H fun x H1 => ∃ (l : Addr) (ns : List Int) (B : Nat), x = .ref l ∧ SqL K H1 l (ns.map V.int) ∧ B < 4000 ∧ ((∀ k ∈ ns, 0 ≤ k ∧ k < B) ∨ ns.length ≤ B) ∧
  ∀ (zs : List Int) (p : Addr), Asc zs → (∀ k, k ∈ zs ↔ k ∈ ns) → zs.length ≤ 5000 → H1 p = none → Q (.ref p) (upd H1 p (.lst (zs.map V.int)))
theorem d_srtSet {X : Cx} (K) {e : Expr} {te : TE} {p p2 q pos : Pos} (hg : Gl X "sorted") (hm : X.mg "sorted" = none) (hg2 : Gl X "set") (hm2 : X.mg "set" = none) (he : PE X e te) (hc : X.calm = true := by rfl)
    (na : starEach [e] X.env = (false, eval e X.env) :: starEach [] X.env := by rfl) (hK : X.K = K := by rfl) : PE X (.Call (.Name "sorted" p) [.Call (.Name "set" p2) [e] [] q] [] pos) (tSrtSet K te) := by
  subst hK
  refine ⟨fun pins s σ H Q I h => ?_⟩
  refine Call_ (ld_blt I hg hm boot_sorted ?_)
  refine PyProof.Rows.callWith_builtin1 (PyProof.Rows.args_cons ?_ rfl) rfl rfl
  refine Call_ (ld_blt I hg2 hm2 boot_set ?_)
  refine PyProof.Rows.callWith_type1 (PyProof.Rows.args_cons (thn (he.run pins s σ H _ I h) fun v s1 ⟨x, H1, I1, r1, q1⟩ => PyProof.Rows.args_nil ?_) na) na rfl
  obtain ⟨l, ns, B, rfl, hq, hB, hb, q1⟩ := q1
  cases r1
  obtain ⟨its, r, pl, hz⟩ := I1.list hq
  have len : its.toArray.size = ns.length := by rw [List.size_toArray, ← r.length, List.length_map]
  refine callSet (I1.ok.hd hc) pl.isList (by simpa using r.ints) (fun h i c R => ?_) fun h' tk c R old => ?_
  · unfold scanBound
    have tk : c ≤ B := by
      rcases hb with hb | hb
      · exact setR_le R fun k hk => hb k (List.mem_of_mem_take (of_decide_eq_true hk))
      · obtain ⟨o, es, ep, t, ho, ex, hd, good, nd, mem, lim, fit, hn, ris, led⟩ := R
        have := nodup_sub nd fun x hx => List.mem_of_mem_take (of_decide_eq_true ((mem x).mpr hx))
        rw [List.length_map, Array.length_toList, hn] at this
        omega
    omega
  · refine PyProof.Rows.args_nil ?_
    have I2 : Inv X pins σ H1 { s1 with heap := h', toks := tk } := I1.kept fun b o e => old b o e
    refine sortSet R (I2.ok.hd hc) fun s' p out c zs old2 g o hp hget hi ha hmem hl hs => ?_
    have fresh : H1 p = none := I2.hok.fresh hp
    have small : (zs.map V.int).length ≤ sizeLine := by
      rw [List.length_map, hl, sizeLine_eq]
      unfold scanBound at hs
      omega
    have J : Inv X pins σ (upd H1 p (.lst (zs.map V.int))) s' :=
      I2.call' (ch := []) o (Un.laid old2 hp fresh) (I2.hok.laid old2 hp ⟨small, out.toList, c, vals_of_ints hi, hget⟩) (by rw [g]; exact I2.bare) (fun _ z => nomatch z)
    refine ⟨.ref p, _, J, rfl, q1 zs p ha (fun k => by rw [hmem k, decide_eq_true_iff]) ?_ fresh⟩
    unfold scanBound at hs
    omega
section
variable {K : PySem.W.Frag} {H : Hp} {Q : VK} {F : List MP} {L : List (Addr × HO)} {l : Addr} {ns : List Int} {te : TE} {σ : Sl}
def kSrt (K : PySem.W.Frag) (x : V) (Q : VK) (H1 : Hp) : Prop := ∃ (l : Addr) (ns : List Int) (B : Nat), x = .ref l ∧ SqL K H1 l (ns.map V.int) ∧ B < 4000 ∧ ((∀ k ∈ ns, 0 ≤ k ∧ k < B) ∨ ns.length ≤ B) ∧
  ∀ (zs : List Int) (p : Addr), Asc zs → (∀ k, k ∈ zs ↔ k ∈ ns) → zs.length ≤ 5000 → H1 p = none → Q (.ref p) (upd H1 p (.lst (zs.map V.int)))
instance : Step (tSrtSet K te σ H Q) (te σ H fun x H1 => kSrt K x Q H1) := ⟨fun h => h⟩
theorem x_srt {B : Nat} (s : S F L H) (h : SqL K H l (ns.map V.int)) (hB : B < 4000) (hb : (∀ k ∈ ns, 0 ≤ k ∧ k < B) ∨ ns.length ≤ B) (q : ∀ (zs : List Int) p H1, Asc zs → (∀ k, k ∈ zs ↔ k ∈ ns) → zs.length ≤ 5000 → S F ((p, .lst (zs.map V.int)) :: L) H1 → Q (.ref p) H1) : kSrt K (.ref l) Q H :=
  ⟨l, ns, B, rfl, h, hB, hb, fun zs p ha hm hl hp => q zs p _ ha hm hl (s.new hp)⟩
end
end TW
namespace TW
open PySem PySem.Spec PyProof.Rows L2
/-! ### watchers -/
abbrev wC (K : PySem.W.Frag) : Addr := He.ga K "Watcher"
def wfs (x ls lf : Addr) : List (Str × V) := [("hall", .ref x), ("starts", .ref ls), ("facts", .ref lf)]
abbrev wCell (K : PySem.W.Frag) (wx dx x ls lf : Addr) : Addr × HO := (wx, .ins (wC K) dx (wfs x ls lf))
/-- the starts that agree -/
def flS (d : HD) (st : List Int) (k : Int) (v : V) : List Int := st.filter fun s => decide (Shown d (s + k) = v)
/-- the waits at a start -/
def wtL (d : HD) (n : Int) (t : Nat) : List Int := btw d.m (n - d.C t) 0 (d.T t - d.C t)
/-- the starts that are left after i displays from tr on -/
def stF (d : HD) (tr : Int) : Nat → List Int
  | 0 => iv 0 d.dis
  | i + 1 => flS d (stF d tr i) i (Shown d (tr + i))
def fcF (d : HD) (tr : Int) (i : Nat) : List V := (List.range i).map fun (j : Nat) => Shown d (tr + j)
theorem fcF_len {d : HD} {tr : Int} {i : Nat} : (fcF d tr i).length = i := by unfold fcF; rw [List.length_map, List.length_range]
theorem fcF_succ {d : HD} {tr : Int} {i : Nat} : fcF d tr (i + 1) = fcF d tr i ++ [Shown d (tr + i)] := by
  unfold fcF
  rw [List.range_succ, List.map_append]
  rfl
theorem stF_bd {d : HD} {tr : Int} : ∀ i, ∀ s ∈ stF d tr i, 0 ≤ s ∧ s < d.dis
  | 0, s, h => mem_iv.mp h
  | i + 1, s, h => stF_bd i s (List.mem_filter.mp h).1
theorem stF_len {d : HD} {tr : Int} : ∀ i, (stF d tr i).length ≤ d.dis
  | 0 => by
    show (iv 0 d.dis).length ≤ _
    rw [iv_len]
    omega
  | i + 1 => Nat.le_trans (List.length_filter_le _ _) (stF_len i)
theorem stF_tr {d : HD} {tr : Int} (h0 : 0 ≤ tr) (h1 : tr < d.dis) : ∀ i, tr ∈ stF d tr i
  | 0 => mem_iv.mpr ⟨h0, h1⟩
  | i + 1 => List.mem_filter.mpr ⟨stF_tr h0 h1 i, decide_eq_true rfl⟩
theorem dis_small {d : HD} (h : d.ok) (p6 : d.per ≤ 6) (m10 : d.m ≤ 10) : 0 < d.dis ∧ d.dis ≤ 66 := by
  have a := dper_le (d := d) h (p := 6) (m := 10) p6 (by omega)
  have b := HD.per_pos h
  unfold HD.dis
  omega
theorem mem_wt {d : HD} {n k : Int} {t : Nat} (m0 : 0 < d.m) (n0 : 0 ≤ n) (n1 : n < d.m) : k ∈ wtL d n t ↔ k ∈ ((iv (d.C t) (d.T t)).filter fun y => decide (y % d.m = n)).map fun y => y - d.C t := by
  unfold wtL
  rw [mem_btw m0, List.mem_map]
  constructor
  · rintro ⟨h0, h1, h2⟩
    refine ⟨k + d.C t, List.mem_filter.mpr ⟨mem_iv.mpr ⟨by omega, by omega⟩, decide_eq_true ((emod_eq_iff m0 n0 n1).mp ?_)⟩, by omega⟩
    rw [show k + d.C t - n = k - (n - d.C t) by omega]
    exact h2
  · rintro ⟨y, hy, rfl⟩
    obtain ⟨h1, h2⟩ := List.mem_filter.mp hy
    have h1 := mem_iv.mp h1
    refine ⟨by omega, by omega, ?_⟩
    rw [show y - d.C t - (n - d.C t) = y - n by omega]
    exact (emod_eq_iff m0 n0 n1).mpr (of_decide_eq_true h2)
theorem ni_lt {d : HD} (h : d.ok) {t : Int} {n : Int} (e : Shown d t = .int n) : 0 ≤ n ∧ n < d.m := by
  have m0 := h.m0
  unfold Shown at e
  split at e
  · cases e
    exact ⟨Int.emod_nonneg _ (by omega), Int.emod_lt_of_pos _ (by omega)⟩
  · cases e
def spDistinct (K : PySem.W.Frag) : Sp := fun vs H Q _ => ∃ (F : List MP) (L : List (Addr × HO)) (x : Addr) (d : HD), vs = [.ref x] ∧ d.ok ∧ hallP K x d ∈ F ∧ d.dis ≤ 5000 ∧ S F L H ∧ ∀ H', S F L H' → Q (.int d.dis) H'
def spWInit (K : PySem.W.Frag) : Sp := fun vs H Q _ => ∃ (F : List MP) (L L' : List (Addr × HO)) (wx dx x : Addr) (d : HD), vs = [.ref wx, .ref x] ∧ d.ok ∧ hallP K x d ∈ F ∧ d.dis ≤ 5000 ∧ Pull (wx, .ins (wC K) dx []) L L' ∧ S F L H ∧
  ∀ ls lf H', S F (wCell K wx dx x ls lf :: (ls, .lst ((iv 0 d.dis).map V.int)) :: (lf, .lst []) :: L') H' → Q .non H'
def spSee (K : PySem.W.Frag) : Sp := fun vs H Q _ => ∃ (F : List MP) (L L1 L2 L' : List (Addr × HO)) (wx dx x ls lf : Addr) (d : HD) (v : V) (st : List Int) (fs : List V), vs = [.ref wx, v] ∧ d.ok ∧ hallP K x d ∈ F ∧ NI v ∧ (∀ n, v = .int n → 0 ≤ n ∧ n < d.m) ∧
  (∀ s ∈ st, 0 ≤ s ∧ s ≤ 5000) ∧ st.length ≤ 5000 ∧ fs.length ≤ 1000 ∧ flS d st fs.length v ≠ [] ∧
  Pull (wCell K wx dx x ls lf) L L1 ∧ Pull (ls, .lst (st.map V.int)) L1 L2 ∧ Pull (lf, .lst fs) L2 L' ∧ S F L H ∧
  ∀ ls' H', S F (wCell K wx dx x ls' lf :: (ls', .lst ((flS d st fs.length v).map V.int)) :: (lf, .lst (fs ++ [v])) :: L') H' → Q (.int (flS d st fs.length v).length) H'
def spHist (K : PySem.W.Frag) : Sp := fun vs H Q _ => ∃ (F : List MP) (L : List (Addr × HO)) (wx dx x ls lf : Addr) (fs : List V), vs = [.ref wx] ∧ wCell K wx dx x ls lf ∈ L ∧ (lf, .lst fs) ∈ L ∧ S F L H ∧ ∀ l H', S F ((l, .lst fs) :: L) H' → Q (.ref l) H'
def spCand (K : PySem.W.Frag) : Sp := fun vs H Q _ => ∃ (F : List MP) (L : List (Addr × HO)) (wx dx x ls lf : Addr) (st : List V), vs = [.ref wx] ∧ wCell K wx dx x ls lf ∈ L ∧ (ls, .lst st) ∈ L ∧ S F L H ∧ ∀ l H', S F ((l, .lst st) :: L) H' → Q (.ref l) H'
def spWaits (K : PySem.W.Frag) : Sp := fun vs H Q _ => ∃ (F : List MP) (L : List (Addr × HO)) (wx dx x ls lf : Addr) (d : HD) (n : Int) (st : List Int) (fs : List V), vs = [.ref wx, .int n] ∧ d.ok ∧ hallP K x d ∈ F ∧ 0 ≤ n ∧ n < d.m ∧
  (∀ s ∈ st, 0 ≤ s ∧ s ≤ 100) ∧ st.length ≤ 100 ∧ fs.length ≤ 100 ∧ wCell K wx dx x ls lf ∈ L ∧ (ls, .lst (st.map V.int)) ∈ L ∧ (lf, .lst fs) ∈ L ∧ S F L H ∧
  ∀ zs l H', Asc zs → (∀ k, k ∈ zs ↔ ∃ s ∈ st, k ∈ wtL d n (s + fs.length).toNat) → zs.length ≤ 5000 → S F ((l, .lst (zs.map V.int)) :: L) H' → Q (.ref l) H'
section
variable {K : PySem.W.Frag} {H : Hp} {Q : VK} {E : XK} {F : List MP} {L L1 L2 L' : List (Addr × HO)} {wx dx x ls lf C : Addr} {d : HD} {v : V} {st : List Int} {fs : List V} {n : Int} {fl : List (Str × V)} {m : Str} {sp : Sp} {t : TA} {σ : Sl}
theorem x_methL (s : S F L H) (h : (x, .ins C dx fl) ∈ L) (hl : fl.lookup m = none) (q : t σ H fun vs H2 => sp (.ref x :: vs) H2 Q E) : rMeth C m sp E t σ (.ref x) H Q := ⟨x, dx, fl, rfl, s.at_ h, hl, q⟩
theorem x_propL (s : S F L H) (h : (x, .ins C dx fl) ∈ L) (q : sp [.ref x] H Q E) : rProp C sp E (.ref x) H Q := ⟨x, dx, fl, rfl, s.at_ h, q⟩
theorem c_distinct (s : S F L H) (m : hallP K x d ∈ F) (ok : d.ok) (h : d.dis ≤ 5000) (k : ∀ H', S F L H' → Q (.int d.dis) H') : spDistinct K [.ref x] H Q E := ⟨F, L, x, d, rfl, ok, m, h, s, k⟩
theorem c_winit (s : S F L H) (m : hallP K x d ∈ F) (ok : d.ok) (h : d.dis ≤ 5000) (p : Pull (wx, .ins (wC K) dx []) L L') (k : ∀ ls lf H', S F (wCell K wx dx x ls lf :: (ls, .lst ((iv 0 d.dis).map V.int)) :: (lf, .lst []) :: L') H' → Q .non H') : spWInit K [.ref wx, .ref x] H Q E := ⟨F, L, L', wx, dx, x, d, rfl, ok, m, h, p, s, k⟩
theorem c_see (s : S F L H) (p1 : Pull (wCell K wx dx x ls lf) L L1) (p2 : Pull (ls, .lst (st.map V.int)) L1 L2) (p3 : Pull (lf, .lst fs) L2 L') (m : hallP K x d ∈ F) (ok : d.ok) (hv : NI v) (hn : ∀ n, v = .int n → 0 ≤ n ∧ n < d.m) (h1 : ∀ s ∈ st, 0 ≤ s ∧ s ≤ 5000) (h2 : st.length ≤ 5000) (h3 : fs.length ≤ 1000) (h4 : flS d st fs.length v ≠ [])
    (k : ∀ ls' H', S F (wCell K wx dx x ls' lf :: (ls', .lst ((flS d st fs.length v).map V.int)) :: (lf, .lst (fs ++ [v])) :: L') H' → Q (.int (flS d st fs.length v).length) H') : spSee K [.ref wx, v] H Q E :=
  ⟨F, L, L1, L2, L', wx, dx, x, ls, lf, d, v, st, fs, rfl, ok, m, hv, hn, h1, h2, h3, h4, p1, p2, p3, s, k⟩
theorem c_hist (s : S F L H) (m1 : wCell K wx dx x ls lf ∈ L) (m2 : (lf, .lst fs) ∈ L) (k : ∀ l H', S F ((l, .lst fs) :: L) H' → Q (.ref l) H') : spHist K [.ref wx] H Q E := ⟨F, L, wx, dx, x, ls, lf, fs, rfl, m1, m2, s, k⟩
theorem c_cand {su : List V} (s : S F L H) (m1 : wCell K wx dx x ls lf ∈ L) (m2 : (ls, .lst su) ∈ L) (k : ∀ l H', S F ((l, .lst su) :: L) H' → Q (.ref l) H') : spCand K [.ref wx] H Q E := ⟨F, L, wx, dx, x, ls, lf, su, rfl, m1, m2, s, k⟩
theorem c_waits (s : S F L H) (m1 : wCell K wx dx x ls lf ∈ L) (m2 : (ls, .lst (st.map V.int)) ∈ L) (m3 : (lf, .lst fs) ∈ L) (m : hallP K x d ∈ F) (ok : d.ok) (n0 : 0 ≤ n) (n1 : n < d.m) (h1 : ∀ s ∈ st, 0 ≤ s ∧ s ≤ 100) (h2 : st.length ≤ 100) (h3 : fs.length ≤ 100)
    (k : ∀ zs l H', Asc zs → (∀ k, k ∈ zs ↔ ∃ s ∈ st, k ∈ wtL d n (s + fs.length).toNat) → zs.length ≤ 5000 → S F ((l, .lst (zs.map V.int)) :: L) H' → Q (.ref l) H') : spWaits K [.ref wx, .int n] H Q E :=
  ⟨F, L, wx, dx, x, ls, lf, d, n, st, fs, rfl, ok, m, n0, n1, h1, h2, h3, m1, m2, m3, s, k⟩
end
end TW
namespace TW
open PySem PySem.Spec PyProof.Rows L2
/-! ### closures: exact objects in the abstract heap -/
def ExO (a : Addr) (o : Obj) : HO := .ext fun h => h.get? a = some o
section
variable {P : Program} {w : World} {H H' H2 : Hp} {h h' B : Heap} {a b : Addr} {o : Obj} {u : HO} {cs : List (Addr × Obj)} {fs ex : List Addr}
theorem exO_ok (e : h.get? a = some o) : ObjOk P w H h a (ExO a o) := ⟨e, ⟨o, e⟩, fun _ _ e k => k _ e⟩
theorem exO_get (x : HOk P w H h) (e : H a = some (ExO a o)) : h.get? a = some o := (x a _ e).1
/-- these objects tracked -/
def adds (H : Hp) : List (Addr × Obj) → Hp
  | [] => H
  | p :: r => upd (adds H r) p.1 (ExO p.1 p.2)
/-- these objects not tracked -/
def subs (H : Hp) (cs : List (Addr × Obj)) : Hp := fun b => if b ∈ cs.map (·.1) then none else H b
theorem adds_ne (hb : b ∉ cs.map (·.1)) : adds H cs b = H b := by
  induction cs with
  | nil => rfl
  | cons p r ih =>
    rw [List.map_cons, List.mem_cons, not_or] at hb
    show upd (adds H r) p.1 _ b = _
    rw [upd_ne hb.1, ih hb.2]
theorem adds_at (hb : b ∈ cs.map (·.1)) : ∃ p ∈ cs, p.1 = b ∧ adds H cs b = some (ExO p.1 p.2) := by
  induction cs with
  | nil => cases hb
  | cons p r ih =>
    by_cases e : b = p.1
    · exact ⟨p, List.mem_cons_self, e.symm, by show upd (adds H r) p.1 _ b = _; rw [e, upd_same]⟩
    · rw [List.map_cons, List.mem_cons] at hb
      obtain ⟨q, hq, e1, e2⟩ := ih (hb.resolve_left e)
      exact ⟨q, List.mem_cons_of_mem _ hq, e1, by show upd (adds H r) p.1 _ b = _; rw [upd_ne e, e2]⟩
theorem subs_ne (hb : b ∉ cs.map (·.1)) : subs H cs b = H b := if_neg hb
theorem subs_at (hb : b ∈ cs.map (·.1)) : subs H cs b = none := if_pos hb
theorem subs_some (e : subs H cs b = some u) : b ∉ cs.map (·.1) ∧ H b = some u := by
  by_cases hb : b ∈ cs.map (·.1)
  · rw [subs_at hb] at e; cases e
  · rw [subs_ne hb] at e; exact ⟨hb, e⟩
theorem adds_none (e : adds H cs b = none) : b ∉ cs.map (·.1) ∧ H b = none := by
  by_cases hb : b ∈ cs.map (·.1)
  · obtain ⟨p, _, _, z⟩ := adds_at (H := H) hb
    rw [z] at e; cases e
  · rw [adds_ne hb] at e; exact ⟨hb, e⟩
theorem exO_ne {xs : List V} : ExO a o ≠ .tup xs := fun z => by unfold ExO at z; cases z
/-- tracked: the objects are there -/
theorem adds_ok (x : HOk P w H h) (hc : ∀ p ∈ cs, h.get? p.1 = some p.2) (hn : ∀ p ∈ cs, H p.1 = none) : HOk P w (adds H cs) h := fun b u e => by
  by_cases hb : b ∈ cs.map (·.1)
  · obtain ⟨p, hp, e1, e2⟩ := adds_at (H := H) hb
    rw [e2] at e
    cases e
    subst e1
    exact exO_ok (hc p hp)
  · rw [adds_ne hb] at e
    have mono : ∀ c v, H c = some v → adds H cs c = some v := fun c v q => by
      rw [adds_ne]
      · exact q
      · intro hc'
        obtain ⟨p, hp, rfl⟩ := List.mem_map.mp hc'
        rw [hn p hp] at q
        cases q
    exact (x b u e).stay (fun c v _ q => q) (fun c q => mono _ _ q) fun c xs q => mono _ _ q
/-- not tracked any more -/
theorem subs_ok (x : HOk P w H h) (hc : ∀ p ∈ cs, ∃ o, H p.1 = some (ExO p.1 o)) : HOk P w (subs H cs) h := fun b u e => by
  obtain ⟨hb, e⟩ := subs_some e
  have keep : ∀ c v, H c = some v → (∀ o, v ≠ ExO c o) → subs H cs c = some v := fun c v q nv => by
    rw [subs_ne]
    · exact q
    · intro hc'
      obtain ⟨p, hp, rfl⟩ := List.mem_map.mp hc'
      obtain ⟨o, z⟩ := hc p hp
      rw [z] at q
      cases q
      exact nv o rfl
  exact (x b u e).stay (fun c v _ q => q) (fun c q => keep _ _ q fun o z => by unfold ExO at z; cases z) fun c xs q => keep _ _ q fun o z => by unfold ExO at z; cases z
/-- a call with these tracked, seen without them -/
theorem un_subs (n : Un fs ex (adds H cs) H2 h h') (x : HOk P w H2 h') (hc : ∀ p ∈ cs, h.get? p.1 = some p.2) (hn : ∀ p ∈ cs, H p.1 = none) (h2 : ∀ p ∈ cs, H2 p.1 = some (ExO p.1 p.2)) : Un fs ex H (subs H2 cs) h h' := by
  have at_ : ∀ b, b ∈ cs.map (·.1) → ∀ o, h.get? b = some o → h'.get? b = some o := fun b hb o e => by
    obtain ⟨p, hp, rfl⟩ := List.mem_map.mp hb
    rw [hc p hp] at e
    cases e
    exact exO_get x (h2 p hp)
  have nocs : ∀ b u, H b = some u → b ∉ cs.map (·.1) := fun b u e hb => by
    obtain ⟨p, hp, rfl⟩ := List.mem_map.mp hb
    rw [hn p hp] at e
    cases e
  refine ⟨fun b o e n1 n2 n3 => ?_, fun b o e n1 n2 n3 => ?_, fun b o e n1 n3 => ?_, fun b o e n3 => n.there b o e n3, fun b xs e => ?_, fun b o u e => ?_, fun b ps e => ?_⟩
  · by_cases hb : b ∈ cs.map (·.1)
    · exact at_ b hb o e
    · exact n.keep b o e (by rw [adds_ne hb]; exact n1) n2 n3
  · by_cases hb : b ∈ cs.map (·.1)
    · exact ⟨o.slots, at_ b hb o e⟩
    · exact n.slot b o e (by rw [adds_ne hb]; exact n1) n2 n3
  · by_cases hb : b ∈ cs.map (·.1)
    · exact subs_at hb
    · rw [subs_ne hb]
      exact n.free b o e (by rw [adds_ne hb]; exact n1) n3
  · rw [subs_ne (nocs b _ e)]
    exact n.tups b xs (by rw [adds_ne (nocs b _ e)]; exact e)
  · rw [subs_ne (nocs b _ e)]
    exact n.frzs b o u (by rw [adds_ne (nocs b _ e)]; exact e)
  · obtain ⟨m, z⟩ := n.tbls b ps (by rw [adds_ne (nocs b _ e)]; exact e)
    exact ⟨m, by rw [subs_ne (nocs b _ e)]; exact z⟩
/-- a call without these, seen with them -/
theorem un_adds (n : Un fs [] (subs H cs) H2 h h') (hc : ∀ p ∈ cs, H p.1 = some (ExO p.1 p.2)) (hg : ∀ p ∈ cs, h.get? p.1 = some p.2) : Un fs [] H (adds H2 cs) h h' ∧ ∀ p ∈ cs, H2 p.1 = none := by
  have n2 : ∀ p ∈ cs, H2 p.1 = none := fun p hp => n.free p.1 p.2 (hg p hp) (subs_at (List.mem_map.mpr ⟨p, hp, rfl⟩)) (by simp)
  have nocs : ∀ b, H b = none → b ∉ cs.map (·.1) := fun b e hb => by
    obtain ⟨p, hp, rfl⟩ := List.mem_map.mp hb
    rw [hc p hp] at e
    cases e
  have noex : ∀ b u, H b = some u → (∀ o, u ≠ ExO b o) → b ∉ cs.map (·.1) := fun b u e nu hb => by
    obtain ⟨p, hp, rfl⟩ := List.mem_map.mp hb
    rw [hc p hp] at e
    cases e
    exact nu _ rfl
  refine ⟨⟨fun b o e n1 n2 n3 => n.keep b o e (by rw [subs_ne (nocs b n1)]; exact n1) n2 n3, fun b o e n1 n2 n3 => n.slot b o e (by rw [subs_ne (nocs b n1)]; exact n1) n2 n3, fun b o e n1 n3 => ?_, fun b o e n3 => n.there b o e n3, fun b xs e => ?_, fun b o u e => ?_, fun b ps e => ?_⟩, n2⟩
  · rw [adds_ne (nocs b n1)]
    exact n.free b o e (by rw [subs_ne (nocs b n1)]; exact n1) n3
  · have z := noex b _ e fun o z => by unfold ExO at z; cases z
    rw [adds_ne z]
    exact n.tups b xs (by rw [subs_ne z]; exact e)
  · have z := noex b _ e fun o z => by unfold ExO at z; cases z
    rw [adds_ne z]
    exact n.frzs b o u (by rw [subs_ne z]; exact e)
  · have z := noex b _ e fun o z => by unfold ExO at z; cases z
    obtain ⟨m, y⟩ := n.tbls b ps (by rw [subs_ne z]; exact e)
    exact ⟨m, by rw [adds_ne z]; exact y⟩
end
/-! ### a call that is handed closures: the captured cells are tracked meanwhile -/
def Cap1 (σ : Sl) (i : Nat) (o : Obj) : Prop := ∃ v u, σ[i]? = some (some v) ∧ o.data = .cell (some u) ∧ RelV v u
inductive CapsAt (σ : Sl) : List (Nat × Addr) → List (Addr × Obj) → Prop where
  | nil : CapsAt σ [] []
  | cons {i c o r s} : Cap1 σ i o → CapsAt σ r s → CapsAt σ ((i, c) :: r) ((c, o) :: s)
/-- the slots' cells -/
def CapOf (X : Cx) (p : Nat × Addr) : Prop := ∃ y, X.N[p.1]? = some y ∧ (X.env.scope.names.lookup y = some .cell ∨ X.env.scope.names.lookup y = some .free) ∧ X.env.cells.lookup y = some p.2 ∧ X.fn y = true
def tCallC (caps : List (Nat × Addr)) (sp : Sp) (t : TA) : TE := fun σ H Q => t σ H fun vs H1 => (∀ p ∈ caps, ∃ v, σ[p.1]? = some (some v)) ∧ ∀ cs, CapsAt σ caps cs → (∀ p ∈ cs, H1 p.1 = none) →
  sp vs (adds H1 cs) (fun v H2 => (∀ p ∈ cs, H2 p.1 = some (ExO p.1 p.2)) ∧ Q v (subs H2 cs)) fun _ _ _ => False
section
variable {X : Cx} {pins : List (Addr × Obj)} {σ : Sl} {H : Hp} {s : Shared} {caps : List (Nat × Addr)} {cs : List (Addr × Obj)}
theorem caps_ex (I : L2.Inv X pins σ H s) (hc : ∀ p ∈ caps, CapOf X p) (hk : ∀ p ∈ caps, ∃ v, σ[p.1]? = some (some v)) : ∃ cs, CapsAt σ caps cs ∧ ∀ p ∈ cs, s.heap.get? p.1 = some p.2 ∧ H p.1 = none ∧ X.s_0.heap.objs.size ≤ p.1 ∧ p.1 ≠ X.env.locals := by
  induction caps with
  | nil => exact ⟨[], .nil, fun _ z => (nomatch z)⟩
  | cons p r ih =>
    obtain ⟨cs, h1, h2⟩ := ih (fun q hq => hc q (List.mem_cons_of_mem _ hq)) fun q hq => hk q (List.mem_cons_of_mem _ hq)
    obtain ⟨y, hy, hkd, hl, hf⟩ := hc p List.mem_cons_self
    obtain ⟨v, hv⟩ := hk p List.mem_cons_self
    obtain ⟨m, _, hloc⟩ := I.loc
    obtain ⟨u, ru, look⟩ := hloc p.1 y v hy hv (hkd.elim (fun z => .inr (.inl z)) fun z => .inr (.inr z))
    have hcell : ∃ o, s.heap.get? p.2 = some o ∧ o.data = .cell (some u) := by
      rcases look with ⟨z, _⟩ | ⟨_, c, e, o, ho, hd⟩
      · rcases hkd with k | k <;> · rw [show X.env.kindOf y = _ from k] at z; cases z
      · rw [hl] at e
        cases e
        exact ⟨o, ho, hd⟩
    obtain ⟨o, ho, hd⟩ := hcell
    refine ⟨(p.2, o) :: cs, .cons ⟨v, u, hv, hd, ru⟩ h1, fun q hq => ?_⟩
    rcases List.mem_cons.mp hq with rfl | hq
    · exact ⟨ho, I.freeC y _ hl, I.ok.cab y _ hf hl, I.cne y _ hl⟩
    · exact h2 q hq
theorem env0_adds (I : L2.Inv X pins σ H s) (h : ∀ p ∈ cs, s.heap.get? p.1 = some p.2 ∧ H p.1 = none ∧ X.s_0.heap.objs.size ≤ p.1 ∧ p.1 ≠ X.env.locals) : Env0 X.prog X.w X.K X.mg X.base X.A X.stack s (adds H cs) := by
  obtain ⟨e1, e2, e3, e4, e5, e6, e7, e8⟩ := I.env0
  refine ⟨e1, e2, fun b o e => ⟨(e3 b o e).1, ?_⟩, e4, e5, fun b hb => ?_, adds_ok e7 (fun p hp => (h p hp).1) fun p hp => (h p hp).2.1, e8⟩
  · rw [adds_ne]
    · exact (e3 b o e).2
    · intro hm
      obtain ⟨p, hp, rfl⟩ := List.mem_map.mp hm
      have a := Heap.lt_size e
      have b := (h p hp).2.2.1
      have c := I.ok.bsz
      exact absurd (Nat.lt_of_lt_of_le a (Nat.le_trans c b)) (Nat.lt_irrefl _)
  · rw [adds_ne]
    · exact e6 b hb
    · intro hm
      obtain ⟨p, hp, rfl⟩ := List.mem_map.mp hm
      rcases List.mem_cons.mp (I.stkSub _ hb) with z | z
      · exact (h p hp).2.2.2 z
      · obtain ⟨_, o, ho, _⟩ := I.ok.funs.mem z
        exact absurd (Nat.lt_of_lt_of_le (Heap.lt_size ho) (h p hp).2.2.1) (Nat.lt_irrefl _)
theorem run_fnC {k : Nat} {f : Addr} {fd : FuncData} {ps : List Str} {sp : Sp} {Q : VK} {us : List Value} {vs : List V} (F : FnOk X.prog X.w X.K X.mg X.base CX0 k f fd ps sp) (hr : Room k X.A) (hb : Binds X.K fd ps [])
    (I : L2.Inv X pins σ H s) (r : Vals vs us) (hc : ∀ p ∈ caps, CapOf X p) (hk : ∀ p ∈ caps, ∃ v, σ[p.1]? = some (some v))
    (h : ∀ cs, CapsAt σ caps cs → (∀ p ∈ cs, H p.1 = none) → sp vs (adds H cs) (fun v H2 => (∀ p ∈ cs, H2 p.1 = some (ExO p.1 p.2)) ∧ Q v (subs H2 cs)) fun _ _ _ => False) : wpAny (model X.prog X.w) X.A (call (.ref f) us) (EP X pins σ Q) X.xe s := by
  obtain ⟨cs, h1, h2⟩ := caps_ex I hc hk
  have hsp := h cs h1 fun p hp => (h2 p hp).2.1
  have hl : (us ++ []).length = ps.length := by rw [List.append_nil, ← r.length]; exact F.len _ _ _ _ hsp
  refine wpAny_call (codeAny_mono (F.run X.A X.stack s (adds H cs) ⟨us, []⟩ (us ++ []) vs _ _ hr (env0_adds I h2) (hb s us I.kIn hl) (by rw [List.append_nil]; exact r) hsp) fun r s' hq => ?_)
  match r, hq with
  | .error e, hq => exact (show False from hq).elim
  | .ok (.ret u), hq =>
    obtain ⟨v, H2, os, bare, un, hok, rv, q1, q2⟩ := hq
    have u2 := un_subs un hok (fun p hp => (h2 p hp).1) (fun p hp => (h2 p hp).2.1) q1
    exact I.after ⟨v, subs H2 cs, os, bare, u2, subs_ok hok fun p hp => ⟨_, q1 p hp⟩, rv, q2⟩
end
section
variable {X : Cx} {k : Nat} {x : Str} {ps : List Str} {sp : Sp} {t : TA} {e : Expr} {es : List Expr} {p pos : Pos} {caps : List (Nat × Addr)}
theorem d_callC (caps) (D : Df X.prog X.w X.K X.mg X.base CX0 k x ps sp) (hr : Room k X.A) (hc : ∀ p ∈ caps, CapOf X p) (ha : PA X (e :: es) t) (hg : Gl X x := by rfl) (hdb : (x == ("__debug__" : Str)) = false := by decide)
    (he : starEach (e :: es) X.env = (false, eval e X.env) :: starEach es X.env := by rfl) (hpl : (backTo pos (starEach es X.env)).any (·.1) = false := by rfl) : PE X (.Call (.Name x p) (e :: es) [] pos) (tCallC caps sp t) := by
  obtain ⟨f, fd, mf, kp, b, F⟩ := D.ex
  refine ⟨fun pins s σ H Q I h => ?_⟩
  refine wpAny_Call_Name_kw (ld_glob I hg mf ?_ hdb)
  refine PySem.W.callWith_K (h₀ := X.base) I.ok.mod.kin kp (thn (ha.run pos pins s σ H _ I h) fun us s1 ⟨vs, H1, I1, r, q1, q2⟩ => ⟨I1.kIn, ?_⟩) he hpl
  exact run_fnC F hr b I1 r hc q1 q2
end
end TW
namespace TW
open PySem PySem.Spec PyProof.Rows L2 LamX
/-! ### a lambda is made -/
def TabOk (q : Str) (ps : Array Value) (E : Hp) : Prop := TriplesOk ps.toList ∧ ∀ (pos : Pos) (cv : Value), codeAmong pos ps.toList = some cv → ∃ c, cv = .ref c ∧ E c = some (CodeO c q)
def tLamV (P : Addr) (q : Str) (mk : Addr → Value → Value → Obj) : TE := fun _ H Q => ∃ ps, H P = some (.tbl ps) ∧ TabOk q ps H ∧
  (∀ (ps' : Array Value) (c f : Addr) (pm ctv : Value), H c = none → c ≠ P → TriplesOk ps'.toList → (∀ (pos : Pos) (cv : Value), codeAmong pos ps'.toList = some cv → codeAmong pos ps.toList = some cv ∨ cv = .ref c) → H f = none → f ≠ c → f ≠ P → Q (.ref f) (upd (upd (upd H P (.tbl ps')) c (CodeO c q)) f (ExO f (mk c pm ctv)))) ∧
  ∀ (pos : Pos) (c f : Addr) (pm ctv : Value), codeAmong pos ps.toList = some (.ref c) → H f = none → Q (.ref f) (upd H f (ExO f (mk c pm ctv)))
theorem TabOk.mono {q : Str} {ps : Array Value} {E E' : Hp} (h : TabOk q ps E) (e : Same E E') : TabOk q ps E' := ⟨h.1, fun pos cv hc => let ⟨c, a, b⟩ := h.2 pos cv hc; ⟨c, a, e _ _ b⟩⟩
abbrev lamO (q : Str) (params : Arguments) (body : Expr) (scope : Scope) (cells : List (Str × Addr)) (c : Addr) (pm ctv : Value) : Obj := PySem.W.kla_obj "<lambda>" q params body scope (cloFrom cells scope.names []) pm c ctv
theorem pe_lam {X : Cx} {c P : Addr} {params : Arguments} {body : Expr} {scope : Scope} {pos : Pos} (TB : TabB X.base X.mg c P) (hcode : X.env.code = .ref c) (hdef : defaultsOf params X.env = ([], []))
    (free : ∀ y ∈ scope.names, y.2 = .free → X.env.scope.names.lookup y.1 = some .cell ∨ X.env.scope.names.lookup y.1 = some .free) : PE X (.Lambda params body scope pos) (tLamV P (X.env.qual ++ "<lambda>") (lamO (X.env.qual ++ "<lambda>") params body scope X.env.cells)) := by
  refine ⟨fun pins s σ H Q I h => ?_⟩
  obtain ⟨ps, hP, ⟨ht, ha⟩, knew, kold⟩ := h
  have hfree : ∀ y ∈ scope.names, y.2 = .free → ∃ c, X.env.cells.lookup y.1 = some c := fun y hy e => by
    rcases free y hy e with k | k
    · exact I.ok.has _ (.inl k)
    · exact I.ok.has _ (.inr k)
  refine PySem.W.kla_eval hdef ?_
  have bP : s.heap.BuiltinsAt X.mg P := TB.bm.keeps I.bk
  have hP' : s.heap.get? P = some { cls := .none, data := .fields ps } := I.hok P _ hP
  cases hc : codeAmong pos ps.toList with
  | none =>
    refine PySem.W.kla_makeFunction (mg := X.mg) (c := c) (P := P) (ps := ps) (closure_ok hfree) I.ok.glob (I.mod.glob.keeps I.bk) hcode (TB.code.keeps I.bk) hP' ht hc TB.gP bP fun c' ctv h' tk hx hge hlt hrec htb => ?_
    obtain ⟨c2, oc, vs, t, e2, hoc, hd, hv⟩ := hrec
    cases e2
    have nC : H c' = none := I.hok.fresh hge
    have I1 := inv_table (t' := tk) (more := #[rawInt pos.line, rawInt pos.col, .ref c']) (h' := h') I hP (fun b o hb e => hx b o hb e) htb hge ⟨oc, vs, t, hoc, hd, hv⟩
    have eL : (ps ++ #[rawInt pos.line, rawInt pos.col, .ref c']).toList = ps.toList ++ [rawInt pos.line, rawInt pos.col, .ref c'] := by simp
    have n1 : c' ≠ P := fun z => by rw [z, hP] at nC; cases nC
    have sz : s.heap.objs.size ≤ h'.objs.size := Nat.le_trans hge (Nat.le_of_lt hlt)
    have n2 : h'.objs.size ≠ c' := Nat.ne_of_gt hlt
    have n3 : h'.objs.size ≠ P := Nat.ne_of_gt (Nat.lt_of_lt_of_le (Heap.lt_size hP') sz)
    have nf : H h'.objs.size = none := I.hok.fresh sz
    have I2 := I1.laid (a := h'.objs.size) (o := ExO h'.objs.size (lamO (X.env.qual ++ "<lambda>") params body scope X.env.cells c' ((X.mg "__name__").getD .none) ctv)) (t' := tk) (h' := h'.push (lamO (X.env.qual ++ "<lambda>") params body scope X.env.cells c' ((X.mg "__name__").getD .none) ctv))
      (fun b u e => Heap.get?_push_of_some _ e) (Nat.le_refl _) (exO_ok (Heap.get?_push_size _ rfl))
    refine ⟨.ref h'.objs.size, _, I2, rfl, knew _ c' _ _ _ nC n1 ?_ (fun p' cv hcv => ?_) nf n2 n3⟩
    · rw [eL]
      exact PySem.TriplesOk_snoc _ _ _ _ ht
    · rw [eL] at hcv
      exact among_app _ ht hcv
  | some cv =>
    obtain ⟨c', e, hco⟩ := ha pos cv hc
    subst e
    refine PySem.W.kla_makeFunctionHit (mg := X.mg) (c := c) (P := P) (ps := ps) (closure_ok hfree) I.ok.glob (I.mod.glob.keeps I.bk) hcode (TB.code.keeps I.bk) hP' ht hc bP fun ctv h' tk hx hsz => ?_
    have I1 : L2.Inv X pins σ (upd H h'.objs.size (ExO h'.objs.size (lamO (X.env.qual ++ "<lambda>") params body scope X.env.cells c' ((X.mg "__name__").getD .none) ctv))) { s with heap := h'.push (lamO (X.env.qual ++ "<lambda>") params body scope X.env.cells c' ((X.mg "__name__").getD .none) ctv), toks := tk } :=
      I.laid (fun b o e => Heap.get?_push_of_some _ (hx b o e)) hsz (exO_ok (Heap.get?_push_size _ rfl))
    exact ⟨.ref h'.objs.size, _, I1, rfl, kold pos c' _ _ _ hc (I.hok.fresh hsz)⟩
end TW
namespace TW
open PySem PySem.Spec PyProof.Rows L2 LamX
/-! ### what a closure does -/
structure CloOk (P : Program) (w : World) (K : PySem.W.Frag) (mg : Str → Option Value) (base : Heap) (CX : CXT) (k : Nat) (f : Addr) (o : Obj) (n : Nat) (sp : Sp) : Prop where
  fn : ∃ fd, o.data = .func fd
  len : ∀ vs H Q E, sp vs H Q E → vs.length = n
  run : ∀ (A : Around) (outer : List Env) (s : Shared) (H : Hp) (us : List Value) (vs : List V) (Q : VK) (E : XK), Room k A → Env0 P w K mg base A outer s H → Vals vs us → H f = some (ExO f o) → sp vs H Q E →
    codeAny (model P w) A (.call (.ref f) ⟨us, []⟩) (CR CX outer P w H s Q E) s
/-- the frame of a lambda's body -/
def lamCx (CX : CXT) (P : Program) (w : World) (K : PySem.W.Frag) (mg : Str → Option Value) (base : Heap) (N : List Str) (q : Str) (scope : Scope) (f c : Addr) (cl : List (Str × Addr)) (A : Around) (outer : List Env) (s : Shared) (H : Hp) (E : XK) : Cx where
  prog := P
  w := w
  K := K
  mg := mg
  base := base
  A := A.deeper (PySem.W.envX q scope s.heap.objs.size f (.ref c) cl)
  N := N
  s_0 := s
  H_0 := H
  env := PySem.W.envX q scope s.heap.objs.size f (.ref c) cl
  outer := outer
  stack := PySem.W.envX q scope s.heap.objs.size f (.ref c) cl :: outer
  ex := []
  fn := fun _ => false
  calm := true
  pn := []
  xe := fun e s' => wpAny (model P w) (A.deeper (PySem.W.envX q scope s.heap.objs.size f (.ref c) cl)) (leaving (PySem.W.envX q scope s.heap.objs.size f (.ref c) cl) e) (fun _ s'' => CX outer H s E e s'') (fun e' s'' => CX outer H s E e' s'') s'
theorem look_of {α : Type} : ∀ {l : List (Str × α)} {y : Str} {u : α}, (l.map (·.1)).Nodup → (y, u) ∈ l → l.lookup y = some u
  | [], _, _, _, h => nomatch h
  | (z, v) :: r, y, u, d, h => by
    obtain ⟨d1, d2⟩ := List.nodup_cons.mp d
    rcases List.mem_cons.mp h with e | h
    · cases e
      exact List.lookup_cons_self
    · have ne : y ≠ z := fun e => d1 (List.mem_map.mpr ⟨(y, u), h, e⟩)
      rw [List.lookup_cons, show (y == z) = false from beq_false_of_ne ne]
      exact look_of d2 h
theorem zip_look {ps : List Str} {us : List Value} {i : Nat} {y : Str} {u : Value} (d : ps.Nodup) (hl : ps.length = us.length) (h1 : ps[i]? = some y) (h2 : us[i]? = some u) : (ps.zip us).reverse.lookup y = some u := by
  refine look_of ?_ (List.mem_reverse.mpr ?_)
  · rw [List.map_reverse, List.map_fst_zip (by omega)]
    exact List.pairwise_reverse.mpr (d.imp fun h => h.symm)
  · refine List.mem_of_getElem? (i := i) ?_
    rw [List.getElem?_zip_eq_some]
    exact ⟨h1, h2⟩
/-- the names of a lambda: its parameters, what it captures, globals -/
structure LamN (ps fs : List Str) (scope : Scope) : Prop where
  kind : scope.kind = .function
  co : scope.isCoroutine = false
  gen : scope.isGenerator = false
  nocell : ∀ y ∈ scope.names, y.2 ≠ .cell
  par : ∀ y ∈ ps, scope.names.lookup y = some .local
  fre : ∀ y ∈ fs, scope.names.lookup y = some .free
  loc : ∀ y ∈ scope.names, y.2 = .local → y.1 ∈ ps
  cap : ∀ y ∈ scope.names, y.2 = .free → y.1 ∈ fs
  nd : (ps ++ fs).Nodup
section
variable {P : Program} {w : World} {K : PySem.W.Frag} {mg : Str → Option Value} {base : Heap} {CX : CXT} {q : Str} {scope : Scope} {f c : Addr} {cl : List (Str × Addr)} {A : Around} {outer : List Env} {s : Shared} {H : Hp} {E : XK} {ps fs : List Str} {vs ws : List V} {us : List Value} {h₁ : Heap} {tk : Nat}
theorem lam_start (L : LamN ps fs scope) (e0 : Env0 P w K mg base A outer s H) (hd : A.handled = none) (rv : Vals vs us) (lv : vs.length = ps.length)
    (hcl : ∀ y c, cl.lookup y = some c → y ∈ fs) (inj : ∀ x y c, cl.lookup x = some c → cl.lookup y = some c → x = y)
    (hfs : ∀ (i : Nat) y, fs[i]? = some y → ∃ c w u, cl.lookup y = some c ∧ ws[i]? = some w ∧ RelV w u ∧ s.heap.IsCell c (some u) ∧ H c = none) (lw : ws.length = fs.length)
    (hns : h₁.Ns s.heap.objs.size fun y => (ps.zip us).reverse.lookup y) (kp : ∀ b o, s.heap.get? b = some o → h₁.get? b = some o) :
    L2.Inv (lamCx CX P w K mg base (ps ++ fs) q scope f c cl A outer s H E) [] ((vs ++ ws).map some) H { s with heap := h₁, toks := tk } := by
  have cellK : ∀ {c : Addr} {v : Option Value}, s.heap.IsCell c v → h₁.IsCell c v := fun ⟨o, ho, hd⟩ => ⟨o, kp _ _ ho, hd⟩
  have noA : ∀ b : Addr, b ∉ (lamCx CX P w K mg base (ps ++ fs) q scope f c cl A outer s H E).ex := fun b z => absurd (show b ∈ ([] : List Addr) from z) (by simp)
  have look : ∀ {y}, y ∈ fs → ∃ c u, cl.lookup y = some c ∧ s.heap.IsCell c (some u) ∧ H c = none := fun {y} hy => by
    obtain ⟨i, hi⟩ := List.getElem?_of_mem hy
    obtain ⟨c, w, u, h1, h2, h3, h4, h5⟩ := hfs i y hi
    exact ⟨c, u, h1, h4, h5⟩
  refine ⟨⟨e0.mod, L.kind, rfl, rfl, Nat.le_refl _, fun y z c e1 e2 => inj y z c e1 e2, fun y hy => ?_, fun y c z _ => ?_, fun _ => hd, Around.frames_deeper e0.frames, .inr ⟨rfl, rfl⟩, fun b z => absurd z (noA b), e0.bs, e0.bsz, fun b _ _ => noA b,
      fun b z => absurd z (noA b), e0.funs, e0.frf⟩,
    rfl, e0.bare, Un.kept kp, ⟨_, hns, fun i y v e1 e2 e3 => ?_⟩, fun y c e => ?_, e0.hok.fresh (Nat.le_refl _), fun y c e => ?_, fun q hq => absurd (show q ∈ ([] : List (Addr × Obj)) ++ [] from hq) (by simp), e0.hok.kept kp, ?_⟩
  · have hy : scope.names.lookup y = some .cell ∨ scope.names.lookup y = some .free := hy
    rcases hy with hy | hy
    · exact absurd rfl (L.nocell _ (PySem.mem_of_lookup hy))
    · obtain ⟨c, u, h, _⟩ := look (L.cap _ (PySem.mem_of_lookup hy) rfl)
      exact ⟨c, h⟩
  · have z : false = true := z
    cases z
  · have e1 : (ps ++ fs)[i]? = some y := e1
    have e2 : ((vs ++ ws).map some)[i]? = some (some v) := e2
    rw [List.getElem?_map, Option.map_eq_some_iff] at e2
    obtain ⟨v', e2, e4⟩ := e2
    cases e4
    by_cases hi : i < ps.length
    · rw [List.getElem?_append_left hi] at e1
      rw [List.getElem?_append_left (by omega)] at e2
      obtain ⟨u, hu, ru⟩ := rv.get e2
      refine ⟨u, ru, .inl ⟨L.par y (List.mem_of_getElem? e1), ?_⟩⟩
      exact zip_look (List.nodup_append.mp L.nd).1 (by rw [← lv, rv.length]) e1 hu
    · rw [List.getElem?_append_right (by omega)] at e1
      rw [List.getElem?_append_right (by omega)] at e2
      obtain ⟨c, w, u, h1, h2, h3, h4, h5⟩ := hfs _ y e1
      rw [show i - ps.length = i - vs.length by omega, e2] at h2
      cases h2
      exact ⟨u, h3, .inr ⟨.inr (L.fre y (List.mem_of_getElem? e1)), c, h1, cellK h4⟩⟩
  · obtain ⟨c', u, h1, h2, _⟩ := look (hcl y c e)
    have h1 : cl.lookup y = some c' := h1
    have e : cl.lookup y = some c := e
    rw [h1] at e
    cases e
    exact ⟨_, cellK h2⟩
  · obtain ⟨c', u, h1, _, h3⟩ := look (hcl y c e)
    have e : cl.lookup y = some c := e
    rw [h1] at e
    cases e
    exact h3
  · show ((vs ++ ws).map some).length = (ps ++ fs).length
    rw [List.length_map, List.length_append, List.length_append, lv, lw]
/-- an exception's end is seen with more tracked -/
def CxAdds (CX : CXT) : Prop := ∀ (outer : List Env) (H : Hp) (cs : List (Addr × Obj)) (s : Shared) (E : XK) (e : Value) (s' : Shared), (∀ p ∈ cs, s.heap.get? p.1 = some p.2 ∧ H p.1 = some (ExO p.1 p.2) ∧ p.1 ∉ frs outer) →
  CX outer (subs H cs) s (fun cls d H2 => (∀ p ∈ cs, H2 p.1 = none) → E cls d (adds H2 cs)) e s' → CX outer H s E e s'
theorem cxAdds0 : CxAdds CX0 := fun _ _ _ _ _ _ _ _ h => h.elim
theorem cxAdds1 : CxAdds (L2.CX P w) := by
  rintro outer H cs s E e s' hc ⟨a, B, H', cls, d, rfl, fl, hok, ub, na, os, ag, hE⟩
  have sb : ∀ p ∈ cs, subs H cs p.1 = none := fun p hp => subs_at (List.mem_map.mpr ⟨p, hp, rfl⟩)
  have hB : ∀ p ∈ cs, B.get? p.1 = some p.2 := fun p hp => ub.keep _ _ (hc p hp).1 (sb p hp) (hc p hp).2.2
  have n2 : ∀ p ∈ cs, H' p.1 = none := fun p hp => ub.free _ _ (hc p hp).1 (sb p hp)
  have nocs : ∀ b, H b = none → b ∉ cs.map (·.1) := fun b e hb => by
    obtain ⟨p, hp, rfl⟩ := List.mem_map.mp hb
    rw [(hc p hp).2.1] at e
    cases e
  have noex : ∀ b u, H b = some u → (∀ o, u ≠ ExO b o) → b ∉ cs.map (·.1) := fun b u e nu hb => by
    obtain ⟨p, hp, rfl⟩ := List.mem_map.mp hb
    rw [(hc p hp).2.1] at e
    cases e
    exact nu _ rfl
  have na2 : a ∉ cs.map (·.1) := fun hb => by
    obtain ⟨p, hp, rfl⟩ := List.mem_map.mp hb
    have z := fl.2.1
    rw [hB p hp] at z
    cases z
  refine ⟨a, B, adds H' cs, cls, d, rfl, fl, adds_ok hok hB n2, ⟨fun b o e n1 n3 => ub.keep b o e (by rw [subs_ne (nocs b n1)]; exact n1) n3, ub.slot, fun b o e n1 => ?_, ub.there, fun b xs e => ?_, fun b o u e => ?_, fun b ps e => ?_⟩, by rw [adds_ne na2]; exact na, os, ag, hE n2⟩
  · rw [adds_ne (nocs b n1)]
    exact ub.free b o e (by rw [subs_ne (nocs b n1)]; exact n1)
  · have z := noex b _ e fun o z => by unfold ExO at z; cases z
    rw [adds_ne z]
    exact ub.tups b xs (by rw [subs_ne z]; exact e)
  · have z := noex b _ e fun o z => by unfold ExO at z; cases z
    rw [adds_ne z]
    exact ub.frzs b o u (by rw [subs_ne z]; exact e)
  · have z := noex b _ e fun o z => by unfold ExO at z; cases z
    obtain ⟨m, y⟩ := ub.tbls b ps (by rw [subs_ne z]; exact e)
    exact ⟨m, by rw [adds_ne z]; exact y⟩
/-- the reading of a closure: its captured cells, with their values; the body's own reading -/
def spClo (q : Str) (c : Addr) (cl : List (Str × Addr)) (fs : List Str) (tb : XK → TE) (n : Nat) : Sp := fun vs H Q E => vs.length = n ∧ ∃ (ws : List V) (cs : List (Addr × Obj)), H c = some (CodeO c q) ∧ c ∉ cs.map (·.1) ∧
  (∀ p ∈ cs, H p.1 = some (ExO p.1 p.2)) ∧ ws.length = fs.length ∧ (∀ (i : Nat) y, fs[i]? = some y → ∃ p ∈ cs, ∃ w u, cl.lookup y = some p.1 ∧ ws[i]? = some w ∧ RelV w u ∧ p.2.data = .cell (some u)) ∧
  tb (fun cls d H2 => (∀ p ∈ cs, H2 p.1 = none) → E cls d (adds H2 cs)) ((vs ++ ws).map some) (subs H cs) (fun v H2 => (∀ p ∈ cs, H2 p.1 = none) → Q v (adds H2 cs))
theorem clo_of {params : Arguments} {body : Expr} {cells : List (Str × Addr)} {pm ctv : Value} {k : Nat} {tb : XK → TE} (cx : CxAdds CX) (L : LamN ps fs scope) (hfree : ∀ y ∈ fs, ∃ c, cells.lookup y = some c) (inj : ∀ x y c, cells.lookup x = some c → cells.lookup y = some c → x = y)
    (hbind : ∀ us : List Value, us.length = ps.length → bindArgs (PySem.W.kla_fn "<lambda>" q params body scope (cloFrom cells scope.names []) pm (.ref c) ctv) ⟨us, []⟩ = pure (ps.zip us))
    (hbody : ∀ (A : Around) (outer : List Env) (s : Shared) (H : Hp) (E : XK), Room k (A.deeper (PySem.W.envX q scope s.heap.objs.size f (.ref c) (cloFrom cells scope.names []))) → PE (lamCx CX P w K mg base (ps ++ fs) q scope f c (cloFrom cells scope.names []) A outer s H E) body (tb E)) :
    CloOk P w K mg base CX (k + 1) f (lamO q params body scope cells c pm ctv) ps.length (spClo q c (cloFrom cells scope.names []) fs tb ps.length) := by
  refine ⟨⟨_, rfl⟩, fun _ _ _ _ h => h.1, fun A outer s H us vs Q E hr e0 rv hf h => ?_⟩
  obtain ⟨lv, ws, cs, hco, hnc, hcs, lw, hcap, htb⟩ := h
  have cm : ∀ {y c}, (cloFrom cells scope.names []).lookup y = some c → y ∈ fs ∧ cells.lookup y = some c := fun {y c} e => by
    rcases cloFrom_mem (PySem.mem_of_lookup e) with hm | ⟨h1, h2⟩
    · cases hm
    · have hy := L.cap _ h1 rfl
      obtain ⟨c1, hc⟩ := hfree y hy
      rw [h2, hc]
      exact ⟨hy, rfl⟩
  have of1 : s.heap.get? f = some (lamO q params body scope cells c pm ctv) := exO_get e0.hok hf
  obtain ⟨⟨oc, vs', t, hoc, hdc, hvc⟩, _, _⟩ := e0.hok c _ hco
  have hg : ∀ p ∈ cs, s.heap.get? p.1 = some p.2 := fun p hp => exO_get e0.hok (hcs p hp)
  have nfr : ∀ p ∈ cs, p.1 ∉ frs outer := fun p hp z => by
    have := e0.frf _ z
    rw [hcs p hp] at this
    cases this
  have e1 : Env0 P w K mg base A outer s (subs H cs) := ⟨e0.frames, e0.mod, fun b o e => ⟨(e0.bs b o e).1, by unfold subs; split; rfl; exact (e0.bs b o e).2⟩, e0.bsz, e0.funs, fun b hb => by unfold subs; split; rfl; exact e0.frf b hb, subs_ok e0.hok fun p hp => ⟨_, hcs p hp⟩, e0.bare⟩
  refine PySem.W.kla_callFunE hr.depth of1 rfl L.co L.gen rfl ⟨c, oc, vs', t, rfl, hoc, hdc, hvc⟩ ?_
  rw [hbind us (by rw [← rv.length]; exact lv)]
  refine wpAny_pure (wpAny_newFunctionEnv (fun y hy => L.nocell y hy) (fun y hy => L.par _ (List.of_mem_zip hy).1) (fun h₁ hns hsb => ⟨(e0.mod.nolimit.keeps fun b o e => (e0.bs b o e).1).fresh _ hsb, ?_⟩) L.kind)
  have kp : ∀ b o, s.heap.get? b = some o → h₁.get? b = some o := fun b o e => hsb.extBut b o (Nat.ne_of_lt (Heap.lt_size e)) (Heap.get?_push_of_some _ e)
  have J : L2.Inv (lamCx CX P w K mg base (ps ++ fs) q scope f c (cloFrom cells scope.names []) A outer s (subs H cs) (fun cls d H2 => (∀ p ∈ cs, H2 p.1 = none) → E cls d (adds H2 cs))) [] ((vs ++ ws).map some) (subs H cs) { s with heap := h₁, toks := s.toks + (ps.zip us).length } :=
    lam_start L e1 hr.hd rv lv (fun y c e => (cm e).1) (fun x y c a b => inj x y c (cm a).2 (cm b).2) (fun i y hy => by
      obtain ⟨p, hp, w, u, a1, a2, a3, a4⟩ := hcap i y hy
      exact ⟨p.1, w, u, a1, a2, a3, ⟨p.2, hg p hp, a4⟩, subs_at (List.mem_map.mpr ⟨p, hp, rfl⟩)⟩) lw hns kp
  refine PySem.W.kla_codeExpr (wpAny_mono ((hbody A outer s _ _ (hr.deeper _)).run [] _ _ _ _ J htb) (fun v s' hq => ?_) fun e s' hq => ?_)
  · obtain ⟨w', H', J', rv', qq⟩ := hq
    obtain ⟨u1, n2⟩ := un_adds J'.base hcs hg
    exact ⟨w', adds H' cs, J'.os, J'.bare, u1, adds_ok J'.hok (fun p hp => J'.base.keep _ _ (hg p hp) (subs_at (List.mem_map.mpr ⟨p, hp, rfl⟩)) (nfr p hp) (fun z => absurd (show p.1 ∈ ([] : List Addr) from z) (by simp))) n2, rv', qq n2⟩
  · exact wpAny_mono hq (fun _ s2 h2 => cx _ _ _ _ _ _ _ (fun p hp => ⟨hg p hp, hcs p hp, nfr p hp⟩) h2) fun _ s2 h2 => cx _ _ _ _ _ _ _ (fun p hp => ⟨hg p hp, hcs p hp, nfr p hp⟩) h2
end
/-! ### a closure is called -/
def tClo (P : Program) (w : World) (K : PySem.W.Frag) (mg : Str → Option Value) (base : Heap) (CX : CXT) (k i n : Nat) (E : XK) (t : TA) : TE := fun σ H Q => ∃ f o sp, σ[i]? = some (some (.ref f)) ∧ H f = some (ExO f o) ∧ CloOk P w K mg base CX k f o n sp ∧
  t σ H fun vs H1 => H1 f = some (ExO f o) ∧ sp vs H1 Q E
section
variable {X : Cx} {CX : CXT} {k i : Nat} {E : XK} {t : TA} {a : Str} {p1 p2 : Pos} {e : Expr} {es : List Expr}
theorem run_clo {pins : List (Addr × Obj)} {σ : Sl} {H : Hp} {s : Shared} {Q : VK} {f : Addr} {o : Obj} {n : Nat} {sp : Sp} {us : List Value} {vs : List V} (F : CloOk X.prog X.w X.K X.mg X.base CX k f o n sp) (hr : Room k X.A) (hx : Passes CX X E)
    (I : L2.Inv X pins σ H s) (r : Vals vs us) (hf : H f = some (ExO f o)) (h : sp vs H Q E) : wpAny (model X.prog X.w) X.A (call (.ref f) us) (EP X pins σ Q) X.xe s := by
  refine wpAny_call (codeAny_mono (F.run X.A X.stack s H us vs Q E hr I.env0 r hf h) fun r s' hq => ?_)
  match r, hq with
  | .error e, hq => exact hx pins σ H s e s' I hq
  | .ok (.ret u), hq => exact I.after hq
theorem pe_clo0 (hr : Room k X.A) (hx : Passes CX X E) (hN : X.N[i]? = some a) (hv : Vis X.env.scope a) (hd : (a == ("__debug__" : Str)) = false := by decide) (hcd : (a == ("__classdict__" : Str)) = false := by decide) :
    PE X (.Call (.Name a p1) [] [] p2) (tClo X.prog X.w X.K X.mg X.base CX k i 0 E tNil) := by
  refine ⟨fun pins s σ H Q I h => ?_⟩
  obtain ⟨f, o, sp, hs, hf, F, hf2, h⟩ := h
  refine wpAny_Call_Name_kw (thn ((pe_var (pos := p1) (i := i) hN hv hd hcd).run pins s σ H (fun v H1 => v = .ref f ∧ H1 = H) I ⟨.ref f, hs, rfl, rfl⟩) fun u s1 ⟨v, H1, I1, r1, q1⟩ => ?_)
  obtain ⟨ev, eH⟩ := q1
  subst ev
  subst eH
  cases r1
  obtain ⟨fd, hfd⟩ := F.fn
  have of1 := exO_get I1.hok hf
  refine PySem.W.callWith_F0 ⟨_, _, fd, _, by rw [of1, ← hfd]⟩ ?_
  exact run_clo F hr hx I1 .nil hf h
theorem pe_clo (hr : Room k X.A) (hx : Passes CX X E) (hN : X.N[i]? = some a) (hv : Vis X.env.scope a) (ha : PA X (e :: es) t) (hd : (a == ("__debug__" : Str)) = false := by decide) (hcd : (a == ("__classdict__" : Str)) = false := by decide)
    (he : starEach (e :: es) X.env = (false, eval e X.env) :: starEach es X.env := by rfl) (hpl : (backTo p2 (starEach es X.env)).any (·.1) = false := by rfl) :
    PE X (.Call (.Name a p1) (e :: es) [] p2) (tClo X.prog X.w X.K X.mg X.base CX k i (e :: es).length E t) := by
  refine ⟨fun pins s σ H Q I h => ?_⟩
  obtain ⟨f, o, sp, hs, hf, F, ht⟩ := h
  refine wpAny_Call_Name_kw (thn ((pe_var (pos := p1) (i := i) hN hv hd hcd).run pins s σ H (fun v H1 => v = .ref f ∧ H1 = H) I ⟨.ref f, hs, rfl, rfl⟩) fun u s1 ⟨v, H1, I1, r1, q1⟩ => ?_)
  obtain ⟨ev, eH⟩ := q1
  subst ev
  subst eH
  cases r1
  obtain ⟨fd, hfd⟩ := F.fn
  have of1 := exO_get I1.hok hf
  refine PySem.W.callWith_F ⟨_, _, fd, _, by rw [of1, ← hfd]⟩ (thn (ha.run p2 pins s1 σ _ _ I1 ht) fun us s2 ⟨vs, H2, I2, r2, hf2, q2⟩ => ?_) he hpl
  have of2 := exO_get I2.hok hf2
  exact ⟨⟨_, _, fd, _, by rw [of2, ← hfd]⟩, run_clo F hr hx I2 r2 hf2 q2⟩
end
end TW
namespace TW
open PySem PySem.Spec PyProof.Rows L2 LamX
/-! ### closures and the two lists -/
section
variable {P : Program} {w : World} {K : PySem.W.Frag} {mg : Str → Option Value} {base : Heap}
variable {F F' : List MP} {L L' : List (Addr × HO)} {H H1 H2 : Hp} {cs : List (Addr × Obj)} {Q : VK} {E : XK} {q : Str} {T c f : Addr} {ps : Array Value} {mk : Addr → Value → Value → Obj}
theorem same_adds (n : ∀ p ∈ cs, H p.1 = none) : Same H (adds H cs) := fun a u e => by
  rw [adds_ne]
  · exact e
  · intro hm
    obtain ⟨p, hp, rfl⟩ := List.mem_map.mp hm
    rw [n p hp] at e
    cases e
/-- dropped again: what was before is still there -/
theorem same_drop (n : ∀ p ∈ cs, H p.1 = none) (s : Same (adds H cs) H2) : Same H (subs H2 cs) := fun a u e => by
  have nm : a ∉ cs.map (·.1) := fun hm => by
    obtain ⟨p, hp, rfl⟩ := List.mem_map.mp hm
    rw [n p hp] at e
    cases e
  rw [subs_ne nm]
  exact s _ _ (same_adds n _ _ e)
/-- taken up again -/
theorem same_back (h : ∀ p ∈ cs, H p.1 = some (ExO p.1 p.2)) (s : Same (subs H cs) H2) : Same H (adds H2 cs) := fun a u e => by
  by_cases hm : a ∈ cs.map (·.1)
  · obtain ⟨p, hp, e1, e2⟩ := adds_at (H := H2) hm
    rw [e2, ← e]
    rw [← e1]
    exact (h p hp).symm
  · rw [adds_ne hm]
    exact s _ _ (by rw [subs_ne hm]; exact e)
theorem adds_in (nd : (cs.map (·.1)).Nodup) : ∀ p ∈ cs, adds H cs p.1 = some (ExO p.1 p.2) := fun p hp => by
  obtain ⟨r, hr, e1, e2⟩ := adds_at (H := H) (List.mem_map.mpr ⟨p, hp, rfl⟩)
  rw [e2]
  have : r = p := by
    clear e2
    induction cs with
    | nil => cases hp
    | cons z l ih =>
      obtain ⟨d1, d2⟩ := List.nodup_cons.mp nd
      rcases List.mem_cons.mp hp with a | a
      · rcases List.mem_cons.mp hr with b | b
        · rw [a, b]
        · exact absurd (List.mem_map.mpr ⟨r, b, by rw [e1, a]⟩) d1
      · rcases List.mem_cons.mp hr with b | b
        · exact absurd (List.mem_map.mpr ⟨p, a, by rw [← e1, b]⟩) d1
        · exact ih d2 a b
  rw [this]
/-- the table of code objects of one name -/
def tcP (q : Str) (ps : Array Value) : MP := ⟨fun E => TabOk q ps E, fun _ _ s h => h.mono s⟩
theorem tcP_nil {E : Hp} : (tcP q #[]).1 E := ⟨True.intro, fun pos cv hc => by
  have z : codeAmong pos [] = some cv := hc
  simp [codeAmong] at z⟩
/-- a lambda is made -/
theorem x_lam {σ : Sl} (s : S F ((T, .tbl ps) :: L) H) (m : tcP q ps ∈ F)
    (k : ∀ (ps' : Array Value) (c f : Addr) (pm ctv : Value) (H' : Hp), S (cel f (ExO f (mk c pm ctv)) :: cel c (CodeO c q) :: tcP q ps' :: F) ((T, .tbl ps') :: L) H' → Q (.ref f) H') : tLamV T q mk σ H Q := by
  refine ⟨ps, s.at_ List.mem_cons_self, s.phi m, fun ps' c f pm ctv nc ncT ht hcs nf nfc nfT => ?_, fun pos c f pm ctv hc nf => ?_⟩
  · refine k ps' c f pm ctv _ ?_
    have s1 : S F ((T, .tbl ps') :: L) (upd H T (.tbl ps')) := s.put .head
    have n1 : upd H T (.tbl ps') c = none := by rw [upd_ne ncT]; exact nc
    have s2 := s1.newF (o := CodeO c q) n1
    have s3 : S (tcP q ps' :: cel c (CodeO c q) :: F) ((T, .tbl ps') :: L) _ := s2.put_ (tcP q ps') fun E e => ⟨ht, fun pos cv h => by
      rcases hcs pos cv h with z | z
      · exact (e (tcP q ps) (List.mem_cons_of_mem _ m)).2 pos cv z
      · exact ⟨c, z, e (cel c (CodeO c q)) List.mem_cons_self⟩⟩
    have n2 : upd (upd H T (.tbl ps')) c (CodeO c q) f = none := by rw [upd_ne nfc, upd_ne nfT]; exact nf
    refine (s3.newF (o := ExO f (mk c pm ctv)) n2).mono (fun g hg => ?_) (List.Sublist.refl _)
    simp only [List.mem_cons] at hg ⊢
    rcases hg with a | a | a | a
    · exact .inl a
    · exact .inr (.inr (.inl a))
    · exact .inr (.inl a)
    · exact .inr (.inr (.inr a))
  · refine k ps c f pm ctv _ ?_
    have s2 : S (cel c (CodeO c q) :: F) ((T, .tbl ps) :: L) H := s.put_ _ fun E e => by
      obtain ⟨c', e1, e2⟩ := (e (tcP q ps) m).2 pos _ hc
      cases e1
      exact e2
    refine (s2.newF (o := ExO f (mk c pm ctv)) nf).mono (fun g hg => ?_) (List.Sublist.refl _)
    simp only [List.mem_cons] at hg ⊢
    rcases hg with a | a | a | a
    · exact .inl a
    · exact .inr (.inl a)
    · exact .inr (.inr (by rw [a]; exact m))
    · exact .inr (.inr a)
end
/-! ### the code of a def and its table -/
def codeAt (K : PySem.W.Frag) (f : Addr) : Addr := match K.lookup f with
  | some ⟨_, _, .func fd, _⟩ => (match fd.code with
    | .ref c => c
    | _ => 0)
  | _ => 0
def tabAt (K : PySem.W.Frag) (c : Addr) : Addr := match K.lookup c with
  | some ⟨_, _, .fields vs, _⟩ => (match (vs[11]? : Option Value) with
    | some (Value.ref P) => P
    | _ => 0)
  | _ => 0
section
variable {P : Program} {w : World} {K : PySem.W.Frag} {mg : Str → Option Value} {base : Heap} {x qual : Str} {params : Arguments} {body : List Stmt} {scope : Scope} {dvs : List V} {kws : List (Str × V)} {f : Addr} {fd : FuncData}
theorem fun_okT {CX : CXT} {N ps : List Str} {k : Nat} {sp : Sp} (F : FunD K x qual params body scope dvs kws f fd) (S : FnScope N ps scope) (len : ∀ vs H Q E, sp vs H Q E → vs.length = ps.length)
    (hbody : ∀ (A : Around) (outer : List Env) (s : Shared) (H : Hp) (vs : List V) (Q : VK) (E : XK), Room k (A.deeper (envOfC qual scope s.heap.objs.size f (.ref (codeAt K f)))) → sp vs H Q E →
      ∃ t, PSs (cxOf CX P w K mg base N qual scope f (.ref (codeAt K f)) A outer s H E) body t ∧ t { nx := fun _ H' => Q .non H', rt := Q } (start N vs) H) : FnOk P w K mg base CX (k + 1) f fd ps sp := by
  obtain ⟨oc, od, dV, kV, doc, pm, an, cdv, ct, osl, rfl, lk, hcd, _, _⟩ := F.ex
  have e : cdv = .ref (codeAt K f) := by
    unfold codeAt
    rw [lk]
    unfold PySem.W.codeIn at hcd
    split at hcd
    · rfl
    · cases hcd
  subst e
  exact fn_of lk hcd S len hbody
end
section
variable {X : Cx} {c T : Addr} {params : Arguments} {body : Expr} {scope sc : Scope} {pos : Pos}
theorem d_lam (sc : Scope) (TB : TabB X.base X.mg c T) (hcode : X.env.code = .ref c := by rfl) (hdef : defaultsOf params X.env = ([], []) := by rfl) (hsc : X.env.scope = sc := by rfl)
    (free : ∀ y ∈ scope.names, y.2 = .free → sc.names.lookup y.1 = some .cell ∨ sc.names.lookup y.1 = some .free := by decide +kernel) :
    PE X (.Lambda params body scope pos) (tLamV T (X.env.qual ++ "<lambda>") (lamO (X.env.qual ++ "<lambda>") params body scope X.env.cells)) := pe_lam TB hcode hdef (by rw [hsc]; exact free)
theorem d_clo {t : TA} {a : Str} {p1 p2 : Pos} {e : Expr} {es : List Expr} (P : Program) (w : World) (K : PySem.W.Frag) (mg : Str → Option Value) (base : Heap) (k i : Nat) (hr : Room k X.A) (ha : PA X (e :: es) t) (hN : X.N[i]? = some a := by rfl) (hv : Vis X.env.scope a := by first | exact Or.inl rfl | exact Or.inr (Or.inl rfl) | exact Or.inr (Or.inr rfl))
    (hd : (a == ("__debug__" : Str)) = false := by decide) (hcd : (a == ("__classdict__" : Str)) = false := by decide)
    (he : starEach (e :: es) X.env = (false, eval e X.env) :: starEach es X.env := by rfl) (hpl : (backTo p2 (starEach es X.env)).any (·.1) = false := by rfl)
    (h1 : X.prog = P := by rfl) (h2 : X.w = w := by rfl) (h3 : X.K = K := by rfl) (h4 : X.mg = mg := by rfl) (h5 : X.base = base := by rfl) :
    PE X (.Call (.Name a p1) (e :: es) [] p2) (tClo P w K mg base CX0 k i (e :: es).length E0 t) := by
  subst h1 h2 h3 h4 h5
  exact pe_clo hr pass0 hN hv ha hd hcd he hpl
theorem inj_one {cells : List (Str × Addr)} {y0 : Str} {c0 : Addr} (e : cells = [(y0, c0)]) : ∀ x y c, cells.lookup x = some c → cells.lookup y = some c → x = y := by
  subst e
  have key : ∀ z c, [(y0, c0)].lookup z = some c → z = y0 := fun z c h => by
    rcases List.mem_singleton.mp (PySem.mem_of_lookup h) with h
    exact congrArg Prod.fst h
  intro x y c h1 h2
  rw [key x c h1, key y c h2]
end
section
variable {P : Program} {w : World} {K : PySem.W.Frag} {mg : Str → Option Value} {base : Heap}
variable {F F' : List MP} {L L' : List (Addr × HO)} {H H1 H2 : Hp} {cs : List (Addr × Obj)} {Q : VK} {E : XK} {q : Str} {T c f x : Addr}
/-- a closure's promise used: the maker's facts are there, and nothing is changed -/
theorem spClo_of {cl : List (Str × Addr)} {fs : List Str} {tb : XK → TE} {n : Nat} {vs ws : List V} (Ok : V → Prop) (hS : S F L H1) (hc : cel c (CodeO c q) ∈ F) (n1 : ∀ p ∈ cs, H1 p.1 = none) (nd : (cs.map (·.1)).Nodup) (lv : vs.length = n) (lw : ws.length = fs.length)
    (hcap : ∀ (i : Nat) y, fs[i]? = some y → ∃ p ∈ cs, ∃ w u, cl.lookup y = some p.1 ∧ ws[i]? = some w ∧ RelV w u ∧ p.2.data = .cell (some u)) (s : S F' L' H) (m : allP (adds H1 cs) ∈ F')
    (htb : ∀ (H0 : Hp) (Q' : VK) (E' : XK), S (allP H0 :: F) [] H0 → (∀ v, Ok v → ∀ H2, S (allP H0 :: F) [] H2 → Q' v H2) → tb E' ((vs ++ ws).map some) H0 Q') (hQ : ∀ v, Ok v → ∀ H3, S F' L' H3 → Q v H3) : spClo q c cl fs tb n vs H Q E := by
  have hm : Same (adds H1 cs) H := s.phi m
  have c1 : H1 c = some (CodeO c q) := hS.phi hc
  have hx : ∀ p ∈ cs, H p.1 = some (ExO p.1 p.2) := fun p hp => hm _ _ (adds_in nd p hp)
  refine ⟨lv, ws, cs, hm _ _ (same_adds n1 _ _ c1), fun z => ?_, hx, lw, hcap, ?_⟩
  · obtain ⟨p, hp, e⟩ := List.mem_map.mp z
    have := n1 p hp
    rw [e, c1] at this
    cases this
  · have s0 : S F L (subs H cs) := hS.same (same_drop n1 hm)
    have s1 : S (allP (subs H cs) :: F) [] (subs H cs) := ⟨⟨_, Same.refl _, fun g hg => by
      rcases List.mem_cons.mp hg with rfl | hg
      · exact Same.refl _
      · exact s0.phi hg, fun p hp => (nomatch hp)⟩, fun p hp => (nomatch hp), List.nodup_nil⟩
    exact htb _ _ _ s1 fun v ok H2 s2 hn => hQ v ok _ (s.same (same_back hx (s2.phi List.mem_cons_self)))
/-- the first tick above a bound, by a closure that tells the sizes -/
def CloNat (P : Program) (w : World) (K : PySem.W.Frag) (mg : Str → Option Value) (base : Heap) (F : List MP) (f : Addr) (o : Obj) (g : Nat → Int) : Prop := ∃ sp, CloOk P w K mg base CX0 4 f o 1 sp ∧
  ∀ (t : Int) (F' : List MP) (L' : List (Addr × HO)) (H : Hp) (Q : VK) (E : XK), 0 ≤ t → (∀ m ∈ F, m ∈ F') → S F' L' H → (∀ H', S F' L' H' → Q (.int (g t.toNat)) H') → sp [.int t] H Q E
def spAbove (P : Program) (w : World) (K : PySem.W.Frag) (mg : Str → Option Value) (base : Heap) : Sp := fun vs H Q _ => ∃ (F : List MP) (L : List (Addr × HO)) (x f : Addr) (d : HD) (m : Int) (o : Obj) (g : Nat → Int), vs = [.ref x, .ref f, .int m] ∧ d.ok ∧ hallP K x d ∈ F ∧ cel f (ExO f o) ∈ F ∧ CloNat P w K mg base F f o g ∧
  (∀ st : Nat, (st : Int) = (d.per : Int) + d.lt → Grow g (fun _ => m) (fun _ => True) st d.per d.gr) ∧ S F L H ∧ ∀ v, First (fun t => m < g t) v → ∀ H', S F L H' → Q v H'
def lamQ : Str := "first_clash.<locals>.<lambda>"
def Clash (d : HD) (t : Nat) : Prop := d.m < d.O t
def ClashV (d : HD) (F : List MP) (L : List (Addr × HO)) (K : PySem.W.Frag) (Q : VK) : Prop := ((∀ t, ¬ Clash d t) → ∀ H', S F L H' → Q .non H') ∧
  ∀ t : Nat, Clash d t → (∀ s, s < t → ¬ Clash d s) → ∀ (p : Addr) H', S (tuF K p [.int t, .int (d.C ((t : Int) - d.lt).toNat), .int (d.C ((t : Int) - d.lt).toNat + d.m)] :: F) L H' → Q (.ref p) H'
def spClash (K : PySem.W.Frag) (T : Addr) : Sp := fun vs H Q _ => ∃ (F : List MP) (L : List (Addr × HO)) (x : Addr) (d : HD) (ps : Array Value), vs = [.ref x] ∧ d.ok ∧ hallP K x d ∈ F ∧ tcP lamQ ps ∈ F ∧ S F ((T, .tbl ps) :: L) H ∧ ∀ ps', ClashV d (tcP lamQ ps' :: F) ((T, .tbl ps') :: L) K Q
theorem x_clo {k i n : Nat} {σ : Sl} {t : TA} {o : Obj} {sp : Sp} (hs : σ[i]? = some (some (.ref f))) (s : S F L H) (m : cel f (ExO f o) ∈ F) (C : CloOk P w K mg base CX0 k f o n sp) (h : t σ H fun vs H1 => H1 f = some (ExO f o) ∧ sp vs H1 Q E0) : tClo P w K mg base CX0 k i n E0 t σ H Q :=
  ⟨f, o, sp, hs, s.phi m, C, h⟩
theorem o_grow {d : HD} (h : d.ok) (st : Nat) (e : (st : Int) = (d.per : Int) + d.lt) : Grow d.O (fun _ => d.m) (fun _ => True) st d.per d.gr where
  p0 := HD.per_pos h
  f_ := fun t ht => by
    have := HD.O_mul h t 1 (by omega)
    rw [Nat.one_mul] at this
    rw [this]
    omega
  b_ := fun _ _ => rfl
  a_ := fun _ _ => Iff.rfl
end
abbrev tabF (K : PySem.W.Frag) (x : Str) : Addr := tabAt K (codeAt K (He.ga K x))
/-! ### a law with tables -/
def spLawT (K : PySem.W.Frag) (Ts : List Addr) : Sp := fun vs H Q _ => ∃ (a : Addr) (ns : List Int), vs = [.ref a] ∧ ns.length ≤ 63 ∧ Ts.Nodup ∧ (∀ T ∈ Ts, H T = some (.tbl #[])) ∧ SqL K H a (ns.map V.int) ∧ ∀ H', Q (.bl true) H'
section
variable {K : PySem.W.Frag} {H : Hp} {Ts : List Addr} {a : Addr} {xs : List V}
def wo (Ts : List Addr) (H : Hp) : Hp := fun b => if b ∈ Ts then none else H b
theorem s_tab (nd : Ts.Nodup) (h : ∀ T ∈ Ts, H T = some (.tbl #[])) : S [allP (wo Ts H)] (Ts.map fun T => (T, HO.tbl #[])) H := by
  refine ⟨⟨wo Ts H, fun b u e => ?_, fun f hf => ?_, fun p hp => ?_⟩, fun p hp => ?_, ?_⟩
  · unfold wo at e
    split at e
    · cases e
    · exact e
  · rw [List.mem_singleton.mp hf]
    exact Same.refl _
  · obtain ⟨T, hT, rfl⟩ := List.mem_map.mp hp
    exact if_pos hT
  · obtain ⟨T, hT, rfl⟩ := List.mem_map.mp hp
    exact h T hT
  · rw [List.map_map]
    have : ((fun p : Addr × HO => p.1) ∘ fun T => (T, HO.tbl #[])) = fun T => T := rfl
    rw [this, List.map_id'']
    · exact nd
    · exact fun _ => rfl
theorem sqL_wo (h : ∀ T ∈ Ts, H T = some (.tbl #[])) (q : SqL K H a xs) : SqL K (wo Ts H) a xs := by
  have key : ∀ u, H a = some u → (∀ ps, u ≠ .tbl ps) → wo Ts H a = some u := fun u e n => by
    unfold wo
    rw [if_neg]
    · exact e
    · intro z
      rw [h a z] at e
      cases e
      exact n _ rfl
  rcases q with (z | ⟨o, z⟩) | z
  · exact .inl (.inl (key _ z fun _ y => by cases y))
  · exact .inl (.inr ⟨o, key _ z fun _ y => by cases y⟩)
  · exact .inr z
end
section
variable {P : Program} {w : World} {K : PySem.W.Frag} {mg : Str → Option Value} {base : Heap}
variable {F F' : List MP} {L L' : List (Addr × HO)} {H H1 H2 : Hp} {cs : List (Addr × Obj)} {Q : VK} {E : XK} {f x : Addr} {o : Obj} {d : HD} {g : Nat → Int} {m : Int} {sp : Sp}
theorem r_callC {caps : List (Nat × Addr)} {t : TA} {σ : Sl} (h : t σ H fun vs H1 => (∀ p ∈ caps, ∃ v, σ[p.1]? = some (some v)) ∧ ∀ cs, CapsAt σ caps cs → (∀ p ∈ cs, H1 p.1 = none) →
  sp vs (adds H1 cs) (fun v H2 => (∀ p ∈ cs, H2 p.1 = some (ExO p.1 p.2)) ∧ Q v (subs H2 cs)) fun _ _ _ => False) : tCallC caps sp t σ H Q := h
theorem c_above (hS : S (cel f (ExO f o) :: F) L H1) (n1 : ∀ p ∈ cs, H1 p.1 = none) (nd : (cs.map (·.1)).Nodup) (ok : d.ok) (hx : hallP K x d ∈ F) (C : ∃ sp, CloOk P w K mg base CX0 4 f o 1 sp ∧ ∀ (t : Int) (F' : List MP) (L' : List (Addr × HO)) (H : Hp) (Q : VK) (E : XK), 0 ≤ t → allP (adds H1 cs) ∈ F' → S F' L' H → (∀ H', S F' L' H' → Q (.int (g t.toNat)) H') → sp [.int t] H Q E)
    (hG : ∀ st : Nat, (st : Int) = (d.per : Int) + d.lt → Grow g (fun _ => m) (fun _ => True) st d.per d.gr) (k : ∀ v, First (fun t => m < g t) v → ∀ H', S (cel f (ExO f o) :: F) L H' → Q v H') :
    spAbove P w K mg base [.ref x, .ref f, .int m] (adds H1 cs) (fun v H2 => (∀ p ∈ cs, H2 p.1 = some (ExO p.1 p.2)) ∧ Q v (subs H2 cs)) E := by
  obtain ⟨sp, C, hsp⟩ := C
  have s0 : S [cel f (ExO f o), hallP K x d, allP (adds H1 cs)] [] (adds H1 cs) := ((s_all _).put_ (hallP K x d) (fun E e => (hallP K x d).2 H1 E ((same_adds n1).trans (e _ List.mem_cons_self)) (hS.phi (List.mem_cons_of_mem _ hx)))).put_ (cel f (ExO f o)) (fun E e => (cel f (ExO f o)).2 H1 E ((same_adds n1).trans (e (allP _) (List.mem_cons_of_mem _ List.mem_cons_self))) (hS.phi List.mem_cons_self))
  refine ⟨_, _, x, f, d, m, o, g, rfl, ok, by simp, by simp, ⟨sp, C, fun t F' L' H Q E h0 hm hS' hq => hsp t F' L' H Q E h0 (hm _ (by simp)) hS' hq⟩, hG, s0, fun v hv H2 hS2 => ?_⟩
  have sm : Same (adds H1 cs) H2 := hS2.phi (f := allP (adds H1 cs)) (by simp)
  exact ⟨fun p hp => sm _ _ (adds_in nd p hp), k v hv _ (hS.same (same_drop n1 sm))⟩
/-- the closure at work, its own numbers set apart -/
theorem clo_at {CX : CXT} {q : Str} {scope : Scope} {c : Addr} {params : Arguments} {body : Expr} {cells : List (Str × Addr)} {pm ctv : Value} {k n : Nat} {tb : XK → TE} {sp : Sp} (ps fs : List Str) (cx : CxAdds CX) (hn : ps.length = n) (hs : sp = spClo q c (cloFrom cells scope.names []) fs tb n) (L : LamN ps fs scope) (hfree : ∀ y ∈ fs, ∃ c, cells.lookup y = some c)
    (inj : ∀ x y c, cells.lookup x = some c → cells.lookup y = some c → x = y) (hbind : ∀ us : List Value, us.length = ps.length → bindArgs (PySem.W.kla_fn "<lambda>" q params body scope (cloFrom cells scope.names []) pm (.ref c) ctv) ⟨us, []⟩ = pure (ps.zip us))
    (hbody : ∀ (A : Around) (outer : List Env) (s : Shared) (H : Hp) (E : XK), Room k (A.deeper (PySem.W.envX q scope s.heap.objs.size f (.ref c) (cloFrom cells scope.names []))) → PE (lamCx CX P w K mg base (ps ++ fs) q scope f c (cloFrom cells scope.names []) A outer s H E) body (tb E)) :
    CloOk P w K mg base CX (k + 1) f (lamO q params body scope cells c pm ctv) n sp := by
  subst hn hs
  exact clo_of cx L hfree inj hbind hbody
end
end TW
namespace TW
open PySem PySem.Spec PyProof.Rows L2
/-! ### clashes -/
instance {d : HD} {t : Nat} : Decidable (Clash d t) := inferInstanceAs (Decidable (d.m < d.O t))
theorem flt_none {p : Nat → Bool} : ∀ {m : Nat}, (∀ t, t < m → p t = false) → flt p m = []
  | 0, _ => rfl
  | m + 1, h => by
    unfold flt
    rw [if_neg (by rw [h m (by omega)]; decide)]
    exact flt_none fun t ht => h t (by omega)
section
variable {K : PySem.W.Frag} {F : List MP} {L : List (Addr × HO)} {H : Hp} {Q : VK} {E : XK} {T x : Addr} {d : HD} {ps : Array Value} {t : Nat}
theorem clash_step (ok : d.ok) {n : Nat} (hn : ∀ s, s < n → ¬ Clash d s) (h : d.per + d.lt + d.per * (d.m + 2) ≤ n) : ∀ t, ¬ Clash d t := fun t c => by
  have p0 := HD.per_pos ok
  have l0 := ok.l0
  have m0 := ok.m0
  obtain ⟨st, hst⟩ : ∃ st : Nat, (st : Int) = (d.per : Int) + d.lt := ⟨((d.per : Int) + d.lt).toNat, by omega⟩
  obtain ⟨mm, hmm⟩ : ∃ mm : Nat, (mm : Int) = d.m := ⟨d.m.toNat, by omega⟩
  have G := o_grow ok st hst
  have e6 : (d.per : Int) * (d.m + 2) = ((d.per * (mm + 2) : Nat) : Int) := by rw [← hmm]; simp
  have pm : d.per ≤ d.per * (mm + 2) := Nat.le_mul_of_pos_right _ (by omega)
  rw [e6] at h
  have hge : n ≤ t := by
    rcases Nat.lt_or_ge t n with z | z
    · exact absurd c (hn t z)
    · exact z
  obtain ⟨t0, k, h1, h2, rfl⟩ := G.back t (by omega)
  have e1 := (G.mul t0 k h1).1
  have g0 := HD.gr_nonneg (d := d)
  have o0 := HD.O_nonneg ok t0
  have c : d.m < d.O (t0 + k * d.per) := c
  rcases Int.lt_or_le 0 d.gr with g | g
  · have e2 := (G.mul t0 (mm + 1) h1).1
    have q : t0 + (mm + 1) * d.per < n := by
      have : (mm + 2) * d.per = (mm + 1) * d.per + d.per := by rw [show mm + 2 = mm + 1 + 1 by omega, Nat.add_mul]; omega
      rw [Nat.mul_comm] at this
      omega
    have nq := hn _ q
    have nq : ¬ d.m < d.O (t0 + (mm + 1) * d.per) := nq
    have := Int.mul_le_mul_of_nonneg_left (show (1 : Int) ≤ d.gr by omega) (show (0 : Int) ≤ ((mm + 1 : Nat) : Int) by omega)
    omega
  · have z : d.gr = 0 := by omega
    rw [z, Int.mul_zero] at e1
    have q : t0 < n := by omega
    have := hn _ q
    have this : ¬ d.m < d.O t0 := this
    omega
theorem clash_lt (ok : d.ok) (p6 : d.per ≤ 6) (m10 : d.m ≤ 10) (l5 : d.lt ≤ 5) (c : Clash d t) (f : ∀ s, s < t → ¬ Clash d s) : t < 200 := by
  rcases Nat.lt_or_ge t 200 with z | z
  · exact z
  · have m0 := ok.m0
    have q : (d.per : Int) * (d.m + 2) ≤ 6 * 12 := Int.mul_le_mul (by omega) (by omega) (by omega) (by omega)
    exact absurd c (clash_step ok (n := t) f (by omega) t)
theorem c_clash (s : S F ((T, .tbl ps) :: L) H) (ht : tcP lamQ ps ∈ F) (hx : hallP K x d ∈ F) (ok : d.ok) (k : ∀ ps', ClashV d (tcP lamQ ps' :: F) ((T, .tbl ps') :: L) K Q) : spClash K T [.ref x] H Q E := ⟨F, L, x, d, ps, rfl, ok, hx, ht, s, k⟩
/-- v is the first clash, as the program tells it -/
def clsP (K : PySem.W.Frag) (v : V) (d : HD) : MP := ⟨fun E => (v = .non ∧ ∀ t, ¬ Clash d t) ∨ ∃ (p : Addr) (t : Nat), v = .ref p ∧ Clash d t ∧ (∀ s, s < t → ¬ Clash d s) ∧ SqT K E p [.int t, .int (d.C ((t : Int) - d.lt).toNat), .int (d.C ((t : Int) - d.lt).toNat + d.m)], fun _ _ e h => by
  rcases h with h | ⟨p, t, a, b, c, f⟩
  · exact .inl h
  · exact .inr ⟨p, t, a, b, c, sqT_mono e f⟩⟩
theorem c_clashV {L' : List (Addr × HO)} (s : S F L H) (pl : Pull (T, .tbl ps) L L') (ht : tcP lamQ ps ∈ F) (hx : hallP K x d ∈ F) (ok : d.ok) (k : ∀ v ps' H', S (clsP K v d :: tcP lamQ ps' :: F) ((T, .tbl ps') :: L') H' → Q v H') : spClash K T [.ref x] H Q E :=
  ⟨F, L', x, d, ps, rfl, ok, hx, ht, s.pull pl, fun ps' => ⟨fun hn H' hS => k _ ps' _ (hS.put_ (clsP K .non d) fun E e => .inl ⟨rfl, hn⟩), fun t hc hm p H' hS => k _ ps' _ ((hS.put_ (clsP K (.ref p) d) fun E e => .inr ⟨p, t, rfl, hc, hm, e _ List.mem_cons_self⟩).mono (fun g hg => by
    simp only [List.mem_cons] at hg ⊢
    rcases hg with a | a
    · exact .inl a
    · exact .inr (.inr a)) (List.Sublist.refl _))⟩⟩
theorem S.cls {v : V} (s : S F L H) (m : clsP K v d ∈ F) : (v = .non ∧ ∀ t, ¬ Clash d t) ∨ ∃ (p : Addr) (t : Nat), v = .ref p ∧ Clash d t ∧ (∀ s, s < t → ¬ Clash d s) ∧ S (tuF K p [.int t, .int (d.C ((t : Int) - d.lt).toNat), .int (d.C ((t : Int) - d.lt).toNat + d.m)] :: F) L H := by
  obtain ⟨E, h1, h2, h3⟩ := s.ex
  rcases h2 _ m with h | ⟨p, t, a, b, c, f⟩
  · exact .inl h
  · refine .inr ⟨p, t, a, b, c, ⟨E, h1, fun g hg => ?_, h3⟩, s.cell, s.nd⟩
    rcases List.mem_cons.mp hg with rfl | hg
    · exact f
    · exact h2 _ hg
end
end TW
namespace TW
open PySem PySem.Spec PyProof.Rows L2
/-! ### clashes and what is open -/
section
variable {d : HD} {t : Nat} {m : Int}
theorem clash_gr (ok : d.ok) (g : 0 < d.gr) : ∃ t, Clash d t := Classical.byContradiction fun z => by
  have p0 := HD.per_pos ok
  have l0 := ok.l0
  obtain ⟨st, hst⟩ : ∃ st : Nat, (st : Int) = (d.per : Int) + d.lt := ⟨((d.per : Int) + d.lt).toNat, by omega⟩
  have G := o_grow ok st hst
  by_cases h : Clash d st
  · exact z ⟨_, h⟩
  · have h : ¬ d.m < d.O st := h
    obtain ⟨s, _, _, c⟩ := G.far_ g (Nat.le_refl st) trivial (by omega)
    exact z ⟨s, c⟩
theorem clash_first : ∀ {t : Nat}, Clash d t → ∃ s, Clash d s ∧ ∀ u, u < s → ¬ Clash d u := fun {t} h => by
  induction t using Nat.strongRecOn with
  | ind t ih =>
    by_cases c : ∃ u, u < t ∧ Clash d u
    · obtain ⟨u, h1, h2⟩ := c
      exact ih u h1 h2
    · exact ⟨t, h, fun u hu hc => c ⟨u, hu, hc⟩⟩
theorem max_ex (f : Nat → Int) : ∀ n : Nat, 0 < n → ∃ m, (∃ t : Nat, t < n ∧ m = f t) ∧ ∀ t : Nat, t < n → f t ≤ m
  | 0, h => absurd h (Nat.lt_irrefl 0)
  | 1, _ => ⟨f 0, ⟨0, by omega, rfl⟩, fun t ht => by rw [show t = 0 by omega]; exact Int.le_refl _⟩
  | n + 2, _ => by
    obtain ⟨m, ⟨t, h1, h2⟩, h3⟩ := max_ex f (n + 1) (by omega)
    by_cases c : f (n + 1) ≤ m
    · refine ⟨m, ⟨t, by omega, h2⟩, fun u hu => ?_⟩
      by_cases e : u = n + 1
      · rw [e]; exact c
      · exact h3 u (by omega)
    · refine ⟨f (n + 1), ⟨n + 1, by omega, rfl⟩, fun u hu => ?_⟩
      by_cases e : u = n + 1
      · rw [e]; exact Int.le_refl _
      · have := h3 u (by omega)
        omega
theorem most_ex (ok : d.ok) (g : d.gr = 0) : ∃ m, d.IsMost m := by
  have p0 := HD.per_pos ok
  have l0 := ok.l0
  obtain ⟨m, h1, h2⟩ := max_ex d.O (2 * (d.per : Int) + d.lt).toNat (by omega)
  exact ⟨m, HD.most_of ok g (by omega) h1 h2⟩
theorem clash_most (h : d.IsMost m) : (∀ t, ¬ Clash d t) ↔ m ≤ d.m := by
  obtain ⟨⟨t, e⟩, h2⟩ := h
  constructor
  · intro z
    have z : ¬ d.m < d.O t := z t
    omega
  · intro z u c
    have c : d.m < d.O u := c
    have := h2 u
    omega
/-- no clash: no growth, and the most fits -/
theorem noclash_iff (ok : d.ok) : (∀ t, ¬ Clash d t) ↔ Clr d := by
  constructor
  · intro z
    have g0 := HD.gr_nonneg (d := d)
    have g : d.gr = 0 := by
      rcases Int.lt_or_le 0 d.gr with g | g
      · obtain ⟨t, c⟩ := clash_gr ok g
        exact absurd c (z t)
      · omega
    obtain ⟨m, hm⟩ := most_ex ok g
    exact ⟨g, m, hm, (clash_most hm).mp z⟩
  · rintro ⟨_, m, hm, h⟩
    exact (clash_most hm).mpr h
theorem clash_bd (ok : d.ok) (c : Clash d t) (f : ∀ s, s < t → ¬ Clash d s) : t ≤ 2000000 ∧ d.m < d.O t ∧ d.O t ≤ d.m + 9 ∨ t = 0 ∧ d.m < d.O t ∧ d.O t ≤ d.m + 9 := by
  have p0 := HD.per_pos ok
  have p1 := HD.per_le ok
  have l0 := ok.l0
  have l1 := ok.l1
  have m0 := ok.m0
  have m1 := ok.m1
  have c' : d.m < d.O t := c
  have up : d.O t ≤ d.m + 9 := by
    by_cases e : t = 0
    · subst e
      have hT := (HD.T_le ok 1)
      have hC := HD.C_nonneg ok ((0 : Int) - d.lt).toNat
      have : d.O 0 = d.T 1 - d.C (((0 : Nat) : Int) - d.lt).toNat := rfl
      rw [show ((0 : Nat) : Int) = 0 from rfl] at this
      omega
    · have u := HD.O_up ok (t - 1) 1
      rw [show t - 1 + 1 = t by omega] at u
      have z : ¬ d.m < d.O (t - 1) := f (t - 1) (by omega)
      omega
  refine .inl ⟨?_, c', up⟩
  rcases Nat.lt_or_ge t 2000001 with z | z
  · omega
  · have q : (d.per : Int) * (d.m + 2) ≤ 144 * 10002 := Int.mul_le_mul (by omega) (by omega) (by omega) (by omega)
    exact absurd c (clash_step ok (n := t) f (by omega) t)
theorem clash_bd' (ok : d.ok) (c : Clash d t) (f : ∀ s, s < t → ¬ Clash d s) : t ≤ 2000000 ∧ d.m < d.O t ∧ d.O t ≤ d.m + 9 := by
  rcases clash_bd ok c f with h | ⟨h1, h2, h3⟩
  · exact h
  · exact ⟨by omega, h2, h3⟩
/-- another modulus: the same is open -/
theorem T_m (k : Int) (n : Nat) : HD.T { d with m := k } n = d.T n := by
  induction n with
  | zero => rfl
  | succ n ih =>
    show HD.T { d with m := k } n + _ = d.T n + _
    rw [ih]
    rfl
theorem B_m (k : Int) (n : Nat) : HD.B { d with m := k } n = d.B n := by
  induction n with
  | zero => rfl
  | succ n ih =>
    show HD.B { d with m := k } n + _ = d.B n + _
    rw [ih]
    rfl
theorem C_m (k : Int) (n : Nat) : HD.C { d with m := k } n = d.C n := by
  induction n with
  | zero => rfl
  | succ n ih =>
    show min (HD.T { d with m := k } (n + 1)) (HD.C { d with m := k } n + _) = min (d.T (n + 1)) (d.C n + _)
    rw [ih, T_m]
    rfl
theorem gr_m (k : Int) : HD.gr { d with m := k } = d.gr := by
  unfold HD.gr
  rw [T_m, B_m]
  rfl
theorem O_m (k : Int) (t : Nat) : HD.O { d with m := k } t = d.O t := by
  unfold HD.O
  rw [T_m, C_m]
theorem most_m {k m : Int} : HD.IsMost { d with m := k } m ↔ d.IsMost m := by
  unfold HD.IsMost
  simp only [O_m]
theorem clr_m {k : Int} : Clr { d with m := k } ↔ d.gr = 0 ∧ ∃ m, d.IsMost m ∧ m ≤ k := by
  unfold Clr
  simp only [gr_m, most_m]
theorem clr_l {k : Int} : Clr { d with lt := k } ↔ ClearAt d k := by
  unfold Clr ClearAt
  rw [HD.gr_lt]
theorem btw_two {f e : Int} {lo hi : Option Int} (m0 : 0 < m) (h : m < e - f) (e1 : lo = none) (e2 : hi = some 2) : cutV ((btw m (f % m) f e).map V.int) lo hi = [.int f, .int (f + m)] := by
  subst e1 e2
  have z : f + (f % m - f) % m = f := by
    have : (f % m - f) % m = 0 := by
      have q := Int.mul_ediv_add_emod f m
      rw [show f % m - f = m * (-(f / m)) by rw [Int.mul_neg]; omega, Int.mul_emod_right]
    omega
  have hn : 2 ≤ apn f e m := by
    unfold apn
    rw [if_pos (by omega)]
    have : (1 : Int) ≤ (e - f - 1) / m := Int.le_ediv_of_mul_le m0 (by omega)
    omega
  unfold btw
  rw [z]
  obtain ⟨k, hk⟩ : ∃ k, apn f e m = k + 2 := ⟨apn f e m - 2, by omega⟩
  rw [hk]
  have e3 : ap f m (k + 2) = f :: (f + m) :: (List.range k).map fun i => f + ((i + 2 : Nat) : Int) * m := by
    unfold ap
    rw [show k + 2 = (k + 1) + 1 from rfl, List.range_succ_eq_map, List.range_succ_eq_map]
    simp only [List.map_cons, List.map_map]
    congr 1
    · simp
    · congr 1
      · simp
  rw [e3]
  unfold cutV
  simp [HT.sIx]
end
end TW
namespace TW
open PySem PySem.Spec PyProof.Rows L2
section
variable {K : PySem.W.Frag} {F : List MP} {L : List (Addr × HO)} {H : Hp} {Q : VK} {E : XK} {x : Addr} {d : HD}
/-- most_open and its kin, whichever way -/
def MostW (d : HD) (g : Int → V) (v : V) : Prop := (0 < d.gr ∧ v = .non) ∨ (d.gr = 0 ∧ ∃ m, d.IsMost m ∧ v = g m)
theorem c_mostX {g : HD → Int → V} (s : S F L H) (e : hallP K x d ∈ F) (ok : d.ok) (k : ∀ v, MostW d (g d) v → ∀ H', S F L H' → Q v H') : spMost K g [.ref x] H Q E :=
  c_most s e ok (fun hz H' hS => k _ (.inl ⟨hz, rfl⟩) H' hS) fun m hz hm H' hS => k _ (.inr ⟨hz, m, hm, rfl⟩) H' hS
end
end TW
namespace TW
open PySem PySem.Spec PyProof.Rows L2
/-! ### halls with another lateness -/
theorem down_ex (P : Nat → Prop) (h : ∀ t, P (t + 1) → P t) : ∀ n : Nat, ∃ N, N ≤ n ∧ ∀ t, t < n → (P t ↔ t < N)
  | 0 => ⟨0, Nat.le_refl 0, fun t ht => absurd ht (Nat.not_lt_zero t)⟩
  | n + 1 => by
    obtain ⟨N, h1, h2⟩ := down_ex P h n
    have dn : ∀ j t, P (t + j) → P t := fun j => by
      induction j with
      | zero => exact fun t z => z
      | succ j ih => exact fun t z => ih t (h _ z)
    by_cases c : P n
    · refine ⟨n + 1, Nat.le_refl _, fun t ht => ⟨fun _ => ht, fun _ => dn (n - t) t (by rw [show t + (n - t) = n by omega]; exact c)⟩⟩
    · refine ⟨N, by omega, fun t ht => ?_⟩
      by_cases e : t = n
      · subst e
        exact ⟨fun z => absurd z c, fun z => by omega⟩
      · exact h2 t (by omega)
section
variable {d : HD} {m : Int}
theorem C_l (k : Int) (n : Nat) : HD.C { d with lt := k } n = d.C n := by
  induction n with
  | zero => rfl
  | succ n ih =>
    show min (HD.T { d with lt := k } (n + 1)) (HD.C { d with lt := k } n + _) = min (d.T (n + 1)) (d.C n + _)
    rw [ih, HD.T_lt]
    rfl
theorem O_l (k : Int) (t : Nat) : HD.O { d with lt := k } t = d.T (t + 1) - d.C ((t : Int) - k).toNat := by
  unfold HD.O
  rw [HD.T_lt, C_l]
theorem ok_l (ok : d.ok) {k : Int} (h0 : 0 ≤ k) (h1 : k ≤ 99) : HD.ok { d with lt := k } := ⟨ok.m0, ok.m1, ok.t0, ok.t1, ok.t2, ok.c0, ok.c1, ok.c2, h0, h1⟩
theorem ok_m (ok : d.ok) {k : Int} (h0 : 2 ≤ k) (h1 : k ≤ 10000) : HD.ok { d with m := k } := ⟨h0, h1, ok.t0, ok.t1, ok.t2, ok.c0, ok.c1, ok.c2, ok.l0, ok.l1⟩
/-- the later the visitors may be, the more is open -/
theorem O_late (ok : d.ok) {j k : Int} (h : j ≤ k) (t : Nat) : HD.O { d with lt := j } t ≤ HD.O { d with lt := k } t := by
  rw [O_l, O_l]
  have := HD.C_mono ok (show ((t : Int) - k).toNat ≤ ((t : Int) - j).toNat by omega)
  omega
theorem clear_down (ok : d.ok) {j k : Int} (j0 : 0 ≤ j) (h : j ≤ k) (k1 : k ≤ 99) (c : Clr { d with lt := k }) : Clr { d with lt := j } := by
  obtain ⟨g, m, ⟨_, hm⟩, hle⟩ := clr_l.mp c
  have hle : m ≤ d.m := hle
  have okj := ok_l ok j0 (by omega : j ≤ 99)
  obtain ⟨m2, ⟨t, e⟩, h2⟩ := most_ex okj (by rw [HD.gr_lt]; exact g)
  refine clr_l.mpr ⟨g, m2, ⟨⟨t, e⟩, h2⟩, ?_⟩
  have := O_late ok h t
  have := hm t
  omega
theorem clear_ex (ok : d.ok) : ∃ N : Nat, N ≤ 100 ∧ ∀ t : Nat, t < 100 → (Clr { d with lt := (t : Int) } ↔ t < N) := by
  obtain ⟨N, h1, h2⟩ := down_ex (fun t => t < 100 ∧ Clr { d with lt := (t : Int) }) (fun t ⟨a, b⟩ => ⟨by omega, clear_down ok (by omega) (by omega) (by omega) b⟩) 100
  exact ⟨N, h1, fun t ht => ⟨fun c => (h2 t ht).mp ⟨ht, c⟩, fun c => ((h2 t ht).mpr c).2⟩⟩
theorem last_clear {N : Nat} {v : V} (hN : N ≤ 100) (h : ∀ t : Nat, t < 100 → (Clr { d with lt := (t : Int) } ↔ t < N)) (hv : Last (ClearAt d) 100 v) : (N = 0 ∧ v = .non) ∨ (0 < N ∧ v = .int ((N : Int) - 1)) := by
  rcases hv with ⟨rfl, hn⟩ | ⟨k, hk, rfl, hc, hn⟩
  · refine .inl ⟨?_, rfl⟩
    rcases Nat.eq_zero_or_pos N with z | z
    · exact z
    · exact absurd (clr_l.mp ((h 0 (by omega)).mpr z)) (hn 0 (by omega))
  · have k1 := (h k hk).mp (clr_l.mpr hc)
    refine .inr ⟨by omega, ?_⟩
    have : ¬ k + 1 < N := fun z => hn (k + 1) (by omega) (by omega) (clr_l.mp ((h (k + 1) (by omega)).mpr z))
    rw [show (N : Int) - 1 = k by omega]
theorem most_late (ok : d.ok) {k m2 : Int} (h : d.lt ≤ k) (h1 : d.IsMost m) (h2 : HD.IsMost { d with lt := k } m2) : m ≤ m2 := by
  obtain ⟨⟨t, e⟩, _⟩ := h1
  have a : d.O t ≤ HD.O { d with lt := k } t := O_late ok h t
  have b := h2.2 t
  omega
theorem most_small (ok : d.ok) (g : d.gr = 0) (p6 : d.per ≤ 6) (l5 : d.lt ≤ 5) (h : d.IsMost m) : m ≤ 9000 := by
  obtain ⟨⟨t, e⟩, _⟩ := h
  obtain ⟨s, h1, h2⟩ := HD.O_cover ok g t
  have b := (HD.T_bd ok (n := s + 1) (by omega)).2
  have c := HD.C_nonneg ok ((s : Int) - d.lt).toNat
  unfold HD.O at h2
  unfold HD.O at e
  omega
theorem colors_bd {m n : Int} (m0 : 0 < m) (n0 : 0 ≤ n) : (max 1 (0 - (0 - n) / m) - 1) * m < max 1 n ∧ max 1 n ≤ max 1 (0 - (0 - n) / m) * m := by
  rw [HD.ceil_eq m0]
  have e := Int.mul_ediv_add_emod (n + m - 1) m
  have r0 := Int.emod_nonneg (n + m - 1) (show m ≠ 0 by omega)
  have r1 := Int.emod_lt_of_pos (n + m - 1) m0
  by_cases z : n = 0
  · have q : (n + m - 1) / m = 0 := Int.ediv_eq_zero_of_lt (by omega) (by omega)
    rw [q, show max (1 : Int) 0 = 1 from rfl]
    omega
  · have q : 1 ≤ (n + m - 1) / m := Int.le_ediv_of_mul_le m0 (by omega)
    rw [show max 1 ((n + m - 1) / m) = (n + m - 1) / m by omega, Int.sub_mul, Int.mul_comm ((n + m - 1) / m) m]
    omega
theorem colors_one {m n : Int} (m0 : 0 < m) (n0 : 0 ≤ n) : max 1 (0 - (0 - n) / m) = 1 ↔ n ≤ m := by
  obtain ⟨a, b⟩ := colors_bd m0 n0
  constructor
  · intro z
    rw [z, Int.one_mul] at b
    omega
  · intro z
    have c : max 1 (0 - (0 - n) / m) - 1 < 1 := Int.lt_of_mul_lt_mul_right (a := m) (by omega) (by omega)
    omega
end
section
variable {K : PySem.W.Frag} {H : Hp} {Q : VK} {p : Addr} {xs : List Int} {i : Int}
def rgI (n : Nat) : List Int := (List.range n).map fun j : Nat => (j : Int)
theorem rgI_succ {n : Nat} {v : V} (e : v = .int n) : (rgI n).map V.int ++ [v] = (rgI (n + 1)).map V.int := by
  unfold rgI
  rw [List.range_succ, List.map_append, List.map_append, e]
  rfl
theorem rgI_len {n : Nat} : (rgI n).length = n := by unfold rgI; rw [List.length_map, List.length_range]
theorem rgI_mem {n : Nat} {i : Int} : i ∈ rgI n ↔ 0 ≤ i ∧ i < n := by
  unfold rgI
  rw [List.mem_map]
  constructor
  · rintro ⟨j, h, rfl⟩
    have := List.mem_range.mp h
    omega
  · rintro ⟨h1, h2⟩
    exact ⟨i.toNat, List.mem_range.mpr (by omega), by omega⟩
theorem x_inI {k : Int} (h : SqL K H p (xs.map V.int)) (q : Q (.bl (decide (k ∈ xs))) H) : rInA K (.int k) (.ref p) H Q := by
  refine ⟨p, _, rfl, .inl h, rfl, ?_, ?_⟩
  · rw [List.all_eq_true]
    intro y hy
    obtain ⟨z, _, rfl⟩ := List.mem_map.mp hy
    rfl
  · have e : inV (.int k) (xs.map V.int) = decide (k ∈ xs) := by
      unfold inV
      rw [List.any_map]
      by_cases c : k ∈ xs
      · rw [decide_eq_true c, List.any_eq_true]
        exact ⟨k, c, by show (k == k) = true; exact beq_self_eq_true k⟩
      · rw [decide_eq_false c, List.any_eq_false]
        intro y hy z
        have z : (y == k) = true := z
        rw [beq_iff_eq] at z
        exact c (z ▸ hy)
    rw [e]
    exact q
end
end TW
namespace TW
open PySem PySem.Spec PyProof.Rows L2
/-! ### halls that differ in one place -/
/-- a list written several times over -/
structure Rep (xs ys : List Int) : Prop where
  k : ∃ k, ys.length = k * xs.length
  g : ∀ i, i < ys.length → ys.getD i 0 = xs.getD (i % xs.length) 0
theorem Rep.refl {xs : List Int} : Rep xs xs := ⟨⟨1, by omega⟩, fun i h => by rw [Nat.mod_eq_of_lt h]⟩
theorem Rep.app {xs ys : List Int} (h : Rep xs ys) : Rep xs (xs ++ ys) := by
  obtain ⟨k, hk⟩ := h.k
  refine ⟨⟨k + 1, by rw [List.length_append, hk, Nat.add_mul]; omega⟩, fun i hi => ?_⟩
  rw [List.length_append] at hi
  simp only [List.getD_eq_getElem?_getD]
  by_cases z : i < xs.length
  · rw [List.getElem?_append_left z, Nat.mod_eq_of_lt z]
  · rw [List.getElem?_append_right (by omega)]
    have := h.g (i - xs.length) (by omega)
    simp only [List.getD_eq_getElem?_getD] at this
    rw [this, ← Nat.mod_eq_sub_mod (by omega)]
theorem Rep.at {xs ys : List Int} (h : Rep xs ys) (h0 : 0 < ys.length) (t : Nat) : ys.getD (t % ys.length) 0 = xs.getD (t % xs.length) 0 := by
  obtain ⟨k, hk⟩ := h.k
  rw [h.g _ (Nat.mod_lt _ h0), Nat.mod_mod_of_dvd _ ⟨k, by rw [hk, Nat.mul_comm]⟩]
namespace HD
variable {d : HD}
/-- the takes written twice, the calls three times, later -/
def rpt (d : HD) : HD := { m := d.m, tk := d.tk ++ d.tk, cl := d.cl ++ (d.cl ++ d.cl), lt := d.lt + 1 }
theorem same_C {e : HD} (ha : ∀ t, e.a t = d.a t) (hc : ∀ t, e.c t = d.c t) : ∀ t, e.T t = d.T t ∧ e.C t = d.C t
  | 0 => ⟨rfl, rfl⟩
  | t + 1 => by
    have ih := same_C ha hc t
    have h1 : e.T (t + 1) = d.T (t + 1) := by
      show e.T t + e.a t = d.T t + d.a t
      rw [ih.1, ha]
    refine ⟨h1, ?_⟩
    show min (e.T (t + 1)) (e.C t + e.c t) = min (d.T (t + 1)) (d.C t + d.c t)
    rw [h1, ih.2, hc]
theorem rep_tk : Rep d.tk d.rpt.tk := Rep.refl.app
theorem rep_cl : Rep d.cl d.rpt.cl := Rep.refl.app.app
theorem C_rpt (h : d.ok) (t : Nat) : d.rpt.C t = d.C t :=
  (same_C (fun t => rep_tk.at (by show 0 < (d.tk ++ d.tk).length; have := h.t0; rw [List.length_append]; omega) t) (fun t => rep_cl.at (by show 0 < (d.cl ++ (d.cl ++ d.cl)).length; have := h.c0; rw [List.length_append]; omega) t) t).2
theorem shown_rpt (h : d.ok) (t : Int) : Shown d.rpt t = Shown d t := by
  unfold Shown
  rw [C_rpt h]; rfl
theorem ok_rpt (h : d.ok) (h1 : d.tk.length ≤ 3) (h2 : d.cl.length ≤ 3) (h3 : d.lt ≤ 5) : d.rpt.ok := by
  have a := h.t0
  have b := h.c0
  have l := h.l0
  refine ⟨h.m0, h.m1, ?_, ?_, ?_, ?_, ?_, ?_, ?_, ?_⟩
  · show 0 < (d.tk ++ d.tk).length
    rw [List.length_append]; omega
  · show (d.tk ++ d.tk).length ≤ 12
    rw [List.length_append]; omega
  · intro x hx
    rcases List.mem_append.mp hx with hx | hx <;> exact h.t2 x hx
  · show 0 < (d.cl ++ (d.cl ++ d.cl)).length
    rw [List.length_append]; omega
  · show (d.cl ++ (d.cl ++ d.cl)).length ≤ 12
    rw [List.length_append, List.length_append]; omega
  · intro x hx
    rcases List.mem_append.mp hx with hx | hx
    · exact h.c2 x hx
    · rcases List.mem_append.mp hx with hx | hx <;> exact h.c2 x hx
  · show 0 ≤ d.lt + 1
    omega
  · show d.lt + 1 ≤ 99
    omega
theorem dvd_rpt : d.per ∣ d.rpt.per := by
  obtain ⟨k1, e1⟩ := (rep_tk (d := d)).k
  obtain ⟨k2, e2⟩ := (rep_cl (d := d)).k
  exact Nat.lcm_dvd (Nat.dvd_trans ⟨k1, by rw [e1, Nat.mul_comm]⟩ (Nat.dvd_lcm_left _ _)) (Nat.dvd_trans ⟨k2, by rw [e2, Nat.mul_comm]⟩ (Nat.dvd_lcm_right _ _))
theorem per_rpt (h : d.ok) (h1 : d.tk.length ≤ 3) (h2 : d.cl.length ≤ 3) : d.rpt.per ≤ 36 := by
  have a := h.t0
  have b := h.c0
  show Nat.lcm (d.tk ++ d.tk).length (d.cl ++ (d.cl ++ d.cl)).length ≤ 36
  rw [List.length_append, List.length_append, List.length_append]
  rcases (show d.tk.length = 1 ∨ d.tk.length = 2 ∨ d.tk.length = 3 by omega) with e | e | e <;> rcases (show d.cl.length = 1 ∨ d.cl.length = 2 ∨ d.cl.length = 3 by omega) with f | f | f <;> rw [e, f] <;> decide
/-- one call changed -/
def chg (d : HD) (i : Nat) (v : Int) : HD := { d with cl := d.cl.take i ++ [v] ++ d.cl.drop (i + 1) }
theorem len_chg {i : Nat} {v : Int} (hi : i < d.cl.length) : (d.chg i v).cl.length = d.cl.length := by
  show (d.cl.take i ++ [v] ++ d.cl.drop (i + 1)).length = _
  rw [List.length_append, List.length_append, List.length_take, List.length_drop, List.length_singleton]; omega
theorem ok_chg (h : d.ok) {i : Nat} {v : Int} (hi : i < d.cl.length) (v0 : 0 ≤ v) (v1 : v ≤ 9) : (d.chg i v).ok := by
  refine ⟨h.m0, h.m1, h.t0, h.t1, h.t2, by rw [len_chg hi]; exact h.c0, by rw [len_chg hi]; exact h.c1, ?_, h.l0, h.l1⟩
  intro x hx
  rcases List.mem_append.mp hx with hx | hx
  · rcases List.mem_append.mp hx with hx | hx
    · exact h.c2 x (List.mem_of_mem_take hx)
    · rw [List.mem_singleton.mp hx]; exact ⟨v0, v1⟩
  · exact h.c2 x (List.mem_of_mem_drop hx)
theorem per_chg {i : Nat} {v : Int} (hi : i < d.cl.length) : (d.chg i v).per = d.per := by
  show Nat.lcm d.tk.length _ = _
  rw [len_chg hi]; rfl
/-- the takes moved by one -/
def rot (d : HD) : HD := { d with tk := d.tk.drop 1 ++ d.tk.take 1 }
theorem len_rot : d.rot.tk.length = d.tk.length := by
  show (d.tk.drop 1 ++ d.tk.take 1).length = _
  rw [List.length_append, List.length_take, List.length_drop]; omega
theorem ok_rot (h : d.ok) : d.rot.ok := by
  refine ⟨h.m0, h.m1, by rw [len_rot]; exact h.t0, by rw [len_rot]; exact h.t1, ?_, h.c0, h.c1, h.c2, h.l0, h.l1⟩
  intro x hx
  rcases List.mem_append.mp hx with hx | hx
  · exact h.t2 x (List.mem_of_mem_drop hx)
  · exact h.t2 x (List.mem_of_mem_take hx)
theorem per_rot : d.rot.per = d.per := by
  show Nat.lcm _ d.cl.length = _
  rw [len_rot]; rfl
end HD
/-- what the other hall is -/
def Oth (kd : Int) (d e : HD) : Prop := e.ok ∧ (e.per ≤ 6 ∧ e.m ≤ 11 ∧ kd ≠ 2 ∨ d.per ∣ e.per ∧ e.per ≤ 36 ∧ e.m ≤ 10 ∧ ∀ t : Int, Shown d t = Shown e t)
theorem oth_bd {kd : Int} {d e : HD} (h1 : d.ok) (p6 : d.per ≤ 6) (m10 : d.m ≤ 10) (n : Oth kd d e) : max d.per e.per + Nat.lcm d.dper e.dper ≤ 6000 := by
  have a0 := HD.dper_pos h1
  have b0 := HD.dper_pos n.1
  have a1 := dper_le h1 p6 (m := 10) (by omega)
  rcases n.2 with ⟨n1, n2, _⟩ | ⟨n1, n2, n3, _⟩
  · have := lcm_le a0 b0 a1 (dper_le n.1 n1 (m := 11) (by omega))
    omega
  · have b1 := dper_le n.1 n2 (m := 10) (by omega)
    have l2 : Nat.lcm d.dper e.dper ∣ d.rnd * e.dper := by
      refine Nat.lcm_dvd ?_ ⟨d.rnd, Nat.mul_comm _ _⟩
      obtain ⟨k, hk⟩ := n1
      refine ⟨k * e.rnd, ?_⟩
      unfold HD.dper
      rw [hk]
      simp only [Nat.mul_assoc, Nat.mul_comm, Nat.mul_left_comm]
    have l3 := Nat.le_of_dvd (Nat.mul_pos (HD.rnd_pos h1) b0) l2
    have r := HD.rnd_le h1
    have := Nat.mul_le_mul (show d.rnd ≤ 10 by omega) b1
    omega
section
variable {K : PySem.W.Frag} {H : Hp} {Q : VK} {p q : Addr} {xs : List V} {F : List MP} {L : List (Addr × HO)} {u v : V} {i : Int} {lo hi : Option Int}
theorem x_repT3 (s : S F L H) (e : Ent F (tuF K p xs)) (hl : 0 < xs.length) (h2 : xs.length ≤ 1000) (k : ∀ r H1, S (tuF K r (xs ++ (xs ++ xs)) :: F) L H1 → Q (.ref r) H1) : rMulA K (.ref p) (.int 3) H Q := by
  refine .inr (.inr ⟨p, 3, xs, rfl, rfl, s.ent e, (fun z => by rw [z] at hl; cases hl), by decide, by decide, h2, fun r hr => ?_⟩)
  have e2 : (List.replicate (Int.toNat 3) xs).flatten = xs ++ (xs ++ xs) := by
    show (List.replicate 3 xs).flatten = _
    simp
  rw [e2]
  exact k r _ (((s.newF hr).put_ (tuF K r (xs ++ (xs ++ xs))) (Ent.tup List.mem_cons_self)).sub ((List.sublist_cons_self _ _).cons_cons _) (List.Sublist.refl _))
theorem cutV_pre (h0 : 0 ≤ i) (h : i ≤ xs.length) : cutV xs none (some i) = xs.take i.toNat := by
  unfold cutV
  have e1 : HT.sIx xs.length 0 none = 0 := rfl
  have e2 : HT.sIx xs.length xs.length (some i) = i.toNat := by
    unfold HT.sIx
    simp only
    rw [if_neg (by omega)]
    omega
  rw [e1, e2, List.drop_zero, Nat.sub_zero]
theorem cutV_suf (h0 : 0 ≤ i) (h : i ≤ xs.length) : cutV xs (some i) none = xs.drop i.toNat := by
  unfold cutV
  have e1 : HT.sIx xs.length xs.length none = xs.length := rfl
  have e2 : HT.sIx xs.length 0 (some i) = i.toNat := by
    unfold HT.sIx
    simp only
    rw [if_neg (by omega)]
    omega
  rw [e1, e2]
  exact List.take_of_length_le (by rw [List.length_drop]; omega)
theorem x_slPre (s : S F L H) (e : Ent F (tuF K p xs)) (h0 : 0 ≤ i) (h : i < xs.length) (q : ∀ r H1, S (tuF K r (xs.take i.toNat) :: F) L H1 → Q (.ref r) H1) : rSlAny K (.ref p) none (some i) H Q :=
  x_slT s (s.ent e) (cutV_pre h0 (by omega)) (by rw [List.length_take]; omega) fun r H1 hS => q r H1 ((hS.put_ (tuF K r (xs.take i.toNat)) (Ent.tup List.mem_cons_self)).sub ((List.sublist_cons_self _ _).cons_cons _) (List.Sublist.refl _))
theorem x_slSuf (s : S F L H) (e : Ent F (tuF K p xs)) (h0 : 0 < i) (h : i ≤ xs.length) (q : ∀ r H1, S (tuF K r (xs.drop i.toNat) :: F) L H1 → Q (.ref r) H1) : rSlAny K (.ref p) (some i) none H Q :=
  x_slT s (s.ent e) (cutV_suf (by omega) h) (by rw [List.length_drop]; omega) fun r H1 hS => q r H1 ((hS.put_ (tuF K r (xs.drop i.toNat)) (Ent.tup List.mem_cons_self)).sub ((List.sublist_cons_self _ _).cons_cons _) (List.Sublist.refl _))
theorem x_slLPre (s : S F L H) (e : SqL K H p xs) (h0 : 0 ≤ i) (h : i < xs.length) (q : ∀ r H1, S F ((r, .lst (xs.take i.toNat)) :: L) H1 → Q (.ref r) H1) : rSlAny K (.ref p) none (some i) H Q := x_slL s e (cutV_pre h0 (by omega)) q
theorem x_slLSuf (s : S F L H) (e : SqL K H p xs) (h0 : 0 ≤ i) (h : i ≤ xs.length) (q : ∀ r H1, S F ((r, .lst (xs.drop i.toNat)) :: L) H1 → Q (.ref r) H1) : rSlAny K (.ref p) (some i) none H Q := x_slL s e (cutV_suf h0 h) q
theorem x_slAny (s : S F L H) (e : Ent F (tuF K p xs)) (q : ∀ r H1, S (tuF K r (cutV xs lo hi) :: F) L H1 → Q (.ref r) H1) : rSlAny K (.ref p) lo hi H Q :=
  .inl ⟨p, xs, rfl, s.ent e, fun z => q p _ (s.put_ _ (by rw [cut_whole z]; exact e)),
    fun _ r hr => q r _ (((s.newF hr).put_ (tuF K r (cutV xs lo hi)) (Ent.tup List.mem_cons_self)).sub ((List.sublist_cons_self _ _).cons_cons _) (List.Sublist.refl _))⟩
theorem x_neNNs {H : Hp} {Q : VK} (q : Q (.bl false) H) : rNeA K .non .non H Q := .inl ⟨rfl, by rw [decide_eq_true rfl]; exact q⟩
def niD : V → PyData
  | .int i => .int i
  | _ => .none
theorem dp_ni (h : NI v) : Dp K H v (niD v) := by
  rcases h with rfl | ⟨i, rfl⟩
  · exact .non
  · exact .int i
theorem eqv_ni (h : NI v) : PyData.eqv (niD v) (niD v) = true := by
  rcases h with rfl | ⟨i, rfl⟩ <;> simp [niD, PyData.eqv]
theorem x_neNi (h1 : SqT K H p [.int i, u, v]) (h2 : SqT K H q [.int i, u, v]) (hu : NI u) (hv : NI v) (k : Q (.bl false) H) : rNeA K (.ref p) (.ref q) H Q := by
  refine .inr ⟨.tuple [.int i, niD u, niD v], .tuple [.int i, niD u, niD v], .tup h1 (.cons (.int i) (.cons (dp_ni hu) (.cons (dp_ni hv) .nil))), .tup h2 (.cons (.int i) (.cons (dp_ni hu) (.cons (dp_ni hv) .nil))), ?_, ?_, ?_⟩
  · rcases hu with rfl | ⟨a, rfl⟩ <;> rcases hv with rfl | ⟨b, rfl⟩ <;> rfl
  · rcases hu with rfl | ⟨a, rfl⟩ <;> rcases hv with rfl | ⟨b, rfl⟩ <;> rfl
  · have e : PyData.eqv (.tuple [.int i, niD u, niD v]) (.tuple [.int i, niD u, niD v]) = true := by
      simp only [PyData.eqv, PyData.eqvAll, eqv_ni hu, eqv_ni hv, Bool.and_true, decide_true, beq_self_eq_true]
    rw [e]; exact k
end
theorem shs_zero {d : HD} : Shs d 0 = [] := rfl
theorem shs_succ {d : HD} {n : Nat} {v : V} (h : v = Shown d (n : Int)) : Shs d n ++ [v] = Shs d (n + 1) := by
  unfold Shs
  rw [List.range_succ, List.map_append, h]; rfl
theorem first_uniq {d e : HD} {s t : Nat} (h1 : Shown d s ≠ Shown e s) (h2 : ∀ r : Nat, r < s → Shown d r = Shown e r) (h3 : Shown d t ≠ Shown e t) (h4 : ∀ r : Nat, r < t → Shown d r = Shown e r) : s = t := by
  rcases Nat.lt_trichotomy s t with y | y | y
  · exact absurd (h4 s y) h1
  · exact y
  · exact absurd (h2 t y) h3
theorem exp_ent {K : PySem.W.Frag} {F : List MP} {q : Addr} {d e : HD} {t : Nat} (hm : expP K (.ref q) d e ∈ F) (h1 : Shown d t ≠ Shown e t) (h2 : ∀ s : Nat, s < t → Shown d s = Shown e s) : Ent F (tuF K q [.int (t : Int), Shown d t, Shown e t]) := fun E z => by
  rcases z _ hm with ⟨no, _⟩ | ⟨q', t', e1, d', b', s'⟩
  · cases no
  · cases e1
    have := first_uniq d' b' h1 h2
    subst this
    exact s'
/-- a log with one entry wrong -/
theorem err_wrong {d : HD} {n i : Nat} {x : V} {zs : List V} (hz : zs = Shs d i ++ [x] ++ (Shs d n).drop (i + 1)) (hx : x ≠ Shown d i) : ErrAt d zs (.int i) := by
  refine .inr ⟨i, x, rfl, ?_, hx, fun j y hj hy => ?_⟩
  · rw [hz, List.append_assoc, List.getElem?_append_right (by simp)]
    simp
  · rw [hz, List.append_assoc, List.getElem?_append_left (by simpa using hj)] at hy
    simp only [Shs, List.getElem?_map, List.getElem?_range hj, Option.map_some, Option.some.injEq] at hy
    exact hy.symm
end TW
namespace TW
open PySem PySem.Spec PyProof.Rows L2 GenW
/-! ### generators: for with a body that hands out -/
section
variable {M : Model} {A : Around} {R : GenEnd} {Y : Protocol} {n : Nat} {s₀ : Shared} {c : Code} {fs : List Frame} {s : Shared} {env : Env}
  {Kf : Flow → Sem PySem.Fin} {J : Value → Sem PySem.Fin} {gd : Bool → Bool} {lv : List Value → List Value}
theorem seg_For {target iter : Expr} {body orelse : List Stmt} {pos : Pos}
    (h : wpAny M (A.over c fs) (eval iter env) (fun x s1 => wpAny M (A.over c fs) (pyIter x) (fun it s2 => ∀ p, Seg M A R Y n s₀ (.forLoop target it body orelse env) (M.den (.forLoop target it body orelse env))
      (.ret (fun r => ((match r with | .ok f => (.pure f : Sem Flow) | .error e => .raise e).onRaise (cameBack env)).wrap Kf J gd lv) none (gd false) (lv []) c p [] :: fs) s2)
      (fun e s' => Seg M A R Y n s₀ c (J e) fs s') s1) (fun e s' => Seg M A R Y n s₀ c (J e) fs s') s)
    (hs : ∀ x, foldedSetIterable iter env x = pure x := by intro _; rfl) :
    Seg M A R Y n s₀ c ((exec (.For target iter body orelse pos) env).wrap Kf J gd lv) fs s := by
  rw [exec_For]
  refine seg_bind_wrap (wpAny_standAt ?_)
  refine seg_bind_wrap (wpAny_mono h (fun x s1 h1 => ?_) fun _ _ z => z)
  refine seg_bind_wrap (wpAny_of_eq (hs x) ?_)
  refine seg_bind_wrap (wpAny_standAt ?_)
  refine seg_bind_wrap (wpAny_holding (wpAny_mono h1 (fun it s2 h2 => ?_) fun _ _ z => z))
  exact seg_call h2
end
section
variable {prog : Program} {w : World} {A : Around} {R : GenEnd} {Y : Protocol} {n : Nat} {s₀ : Shared} {fs : List Frame} {s : Shared} {env : Env}
/-- an exception in a loop's turn -/
def tRz (env : Env) (x : Value) : Sem PySem.Fin := (do noteFrame x env; theTreesLotGoes x : Sem Unit).bind fun _ => .raise x
theorem seg_forLoop {target : Expr} {it : Value} {body : List Stmt}
    (h : wpAny (model prog w) (A.over (.forLoop target it body [] env) fs) (pyNext it) (fun r s1 => match r with
      | none => Seg (model prog w) A R Y n s₀ (.block [] env) ((model prog w).den (.block [] env)) fs s1
      | some v => wpAny (model prog w) (A.over (.forLoop target it body [] env) fs) (letOwnedTupleGo target it v) (fun _ s2 =>
          wpAny (model prog w) (A.over (.forLoop target it body [] env) fs) (assign target env v) (fun _ s3 =>
            Seg (model prog w) A R Y n s₀ (.forLoop target it body [] env) ((execs body env).wrap (fun f => match f with
              | .next | .cont => .pure (.again (.forLoop target it body [] env))
              | .brk => .pure (.done .next)
              | .ret v => .pure (.done (.ret v))) (tRz env) id id) fs s3)
            (fun x s' => Seg (model prog w) A R Y n s₀ (.forLoop target it body [] env) (tRz env x) fs s') s2)
          (fun x s' => Seg (model prog w) A R Y n s₀ (.forLoop target it body [] env) (tRz env x) fs s') s1)
      (fun x s' => Seg (model prog w) A R Y n s₀ (.forLoop target it body [] env) (tRz env x) fs s') s) :
    Seg (model prog w) A R Y n s₀ (.forLoop target it body [] env) ((model prog w).den (.forLoop target it body [] env)) fs s := by
  show Seg _ A R Y n s₀ _ ((forTurn target it body [] env).onRaise (fun x => do noteFrame x env; theTreesLotGoes x)) fs s
  unfold forTurn
  rw [Sem.onRaise_eq_wrap]
  refine seg_bind_wrap (wpAny_standAt ?_)
  refine seg_bind_wrap (wpAny_onRaise (wpAny_mono h (fun r s1 h1 => ?_) fun x s' hx => wpAny_standAt hx))
  cases r with
  | none => exact seg_again rfl h1
  | some v =>
    refine seg_bind_wrap (wpAny_mono h1 (fun _ s2 h2 => ?_) fun _ _ z => z)
    refine seg_bind_wrap (wpAny_mono h2 (fun _ s3 h3 => ?_) fun _ _ z => z)
    show Seg _ A R Y n s₀ _ (Sem.wrap _ _ _ _ ((execs body env) >>= _)) fs s3
    rw [Sem.bind_eq_wrap', Sem.wrap_wrap]
    refine Eq.mpr (congrArg (fun z => Seg (model prog w) A R Y n s₀ (.forLoop target it body [] env) z fs s3) (Sem.wrap_congr (execs body env) id id (K' := fun f => match f with
            | .next | .cont => .pure (.again (.forLoop target it body [] env))
            | .brk => .pure (.done .next)
            | .ret v => .pure (.done (.ret v))) (H' := tRz env)
        (fun f => by cases f <;> rfl) (fun e => rfl))) h3
theorem seg_block0 (h : Seg (model prog w) A R Y n s₀ (.block [] env) (.pure (.done .next)) fs s) : Seg (model prog w) A R Y n s₀ (.block [] env) ((model prog w).den (.block [] env)) fs s := h
end
section
variable {X : Cx}
def tGFor (wi : TI) (g : TG) (tb : TGn) : TGn := fun D ys σ H => wi σ H fun J H1 => ∃ W : Nat → Nat → List V → L2.St → Hp → Prop, (∃ m, W 0 m ys σ H1) ∧ ∀ i m ys σ H, W i m ys σ H →
  (J.stop i H ∧ D.nx ys σ H) ∨ (J.go i H ∧ ∃ N : List V → L2.St → Hp → Prop, (∀ ys' σ' H', N ys' σ' H' → ∃ m', m' < m ∧ W (i + 1) m' ys' σ' H') ∧ ∀ x H', J.yld i H x H' → g x σ H' fun σ2 H2 => tb { D with nx := N, ct := N, bk := D.nx } ys σ2 H2)
theorem gs_for {iter tg : Expr} {body : List Stmt} {wi : TI} {g : TG} {tb : TGn} {pos : Pos} (hp : PassesOwn (model X.prog X.w) X.A X.env X.xe) (hc : X.calm = true) (hi : PI X tg iter wi) (hg : PG X tg g) (hb : GSs X body tb)
    (hs : ∀ x, foldedSetIterable iter X.env x = pure x := by intro _; rfl) : GS X (.For tg iter body [] pos) (tGFor wi g tb) := by
  refine ⟨fun A S ip R n ys s₀ c fs Kf Jf gd lv s σ H D gc hn k hI ht => ?_⟩
  obtain ⟨acc0, cc0, r0, I0⟩ := hI
  refine seg_For ?_ hs
  rw [gc.over]
  refine wpAny_mono (hi.run _ s σ H _ I0 ht) (fun v s1 h1 => wpAny_mono h1 (fun itv s2 h2 => ?_) fun x s' hx => k.exc n s₀ x s' hx) fun x s' hx => k.exc n s₀ x s' hx
  obtain ⟨it, fp, tn, J, H2, e, I2, T, st2, f2, W, ⟨m0, w0⟩, turn⟩ := h2
  subst e
  intro p
  have stat : ∀ {acc' : Array Value} {c' : Nat} {H' : Hp}, (∀ b ∈ fp, H' b = none) → ∀ b ∈ fp, FpOk X ((S, lstObj acc' c') :: ip) H' b := fun {acc' c' H'} hn b hb => by
    obtain ⟨_, a1, a2, a3, a4, a5⟩ := f2 b hb
    refine ⟨hn b hb, a1, a2, a3, a4, fun q hq => ?_⟩
    rcases List.mem_append.mp hq with hq | hq
    · exact a5 q (List.mem_append_left _ hq)
    · rcases List.mem_cons.mp hq with hq | hq
      · rw [hq]; exact a5 (S, lstObj acc0 cc0) (List.mem_append_right _ List.mem_cons_self)
      · exact a5 q (List.mem_append_right _ (List.mem_cons_of_mem _ hq))
  have fpS : ∀ b ∈ fp, b ≠ S := fun b hb z => (f2 b hb).2.2.2.2.2 (S, lstObj acc0 cc0) (List.mem_append_right _ List.mem_cons_self) z.symm
  have gl := fun (kk : Result → Sem PySem.Fin) => gc_loop (k := kk) (c' := .forLoop tg (.ref it) body [] X.env) (l := lv []) (kp := []) (p := p) gc rfl rfl
  have loop : ∀ (m i n : Nat) (ys : List V) (s₀ s : Shared) (σ : L2.St) (H : Hp), n + ys.length = sizeLine → W i m ys σ H → GI X S ip ys σ H s → tn i s.heap → (∀ b ∈ fp, H b = none) →
      Seg (model X.prog X.w) A R (GY X S) n s₀ (.forLoop tg (.ref it) body [] X.env) ((model X.prog X.w).den (.forLoop tg (.ref it) body [] X.env))
        (.ret (fun r => ((match r with | .ok f => (.pure f : Sem Flow) | .error e => .raise e).onRaise (cameBack X.env)).wrap Kf Jf gd lv) none (gd false) (lv []) c p [] :: fs) s := by
    intro m
    induction m using Nat.strongRecOn with
    | ind m ih =>
      intro i n ys s₀ s σ H hn w hI st fr
      have ee : ∀ (n : Nat) (s₀ : Shared) (x : Value) (s' : Shared), X.xe x s' → Seg (model X.prog X.w) A R (GY X S) n s₀ (.forLoop tg (.ref it) body [] X.env) (tRz X.env x)
          (.ret (fun r => ((match r with | .ok f => (.pure f : Sem Flow) | .error e => .raise e).onRaise (cameBack X.env)).wrap Kf Jf gd lv) none (gd false) (lv []) c p [] :: fs) s' := fun n s₀ x s' hx => by
        unfold tRz
        rw [Sem.bind_eq_wrap]
        refine seg_wrap ?_
        rw [(gl _).over]
        refine wpAny_bind (wpAny_mono (hp x s' hx) (fun _ s'' hcb => wpAny_theTreesLotGoes ?_) fun y s'' hcb => ?_)
        · exact seg_leaf (.error x) (seg_cameBack gc k hcb)
        · exact seg_leaf (.error y) (seg_cameBack gc k hcb)
      refine seg_forLoop ?_
      rw [(gl _).over]
      obtain ⟨acc, cc, r, I⟩ := hI
      rcases turn i m ys σ H w with ⟨stop, qn⟩ | ⟨go, N, hN, step⟩
      · refine wpAny_mono (T.done X rfl rfl rfl hc i _ s σ H X.xe I (stat fr) st stop) (fun r4 s4 h4 => ?_) fun x s' hx => ee n s₀ x s' hx
        obtain ⟨hr, I4⟩ := h4
        subst hr
        refine seg_block0 ?_
        exact seg_leaf (.ok .next) (k.ok n ys s₀ s4 .next hn ⟨σ, H, ⟨acc, cc, r, I4⟩, qn⟩)
      · refine wpAny_mono (T.item X rfl rfl rfl hc i _ s σ H X.xe I (stat fr) st go) (fun r4 s4 h4 => ?_) fun x s' hx => ee n s₀ x s' hx
        obtain ⟨u, hr, h4⟩ := h4
        subst hr
        refine wpAny_mono h4 (fun _ s5 h5 => ?_) fun x s' hx => ee n s₀ x s' hx
        obtain ⟨x, H5, I5, r5, y5, st5, fr5⟩ := h5
        have I5' := I5.pinned (stat fr5) (T.obj _ _ st5)
        refine wpAny_mono (hg.run _ s5 σ H5 x u _ I5' r5 (step x H5 y5)) (fun _ s6 h6 => ?_) fun x s' hx => ee n s₀ x s' hx
        obtain ⟨σ6, H6, I6, q6⟩ := h6
        have g2 : GC X S (ip ++ pinsAt fp s5.heap) A (.forLoop tg (.ref it) body [] X.env) (.ret (fun r => ((match r with | .ok f => (.pure f : Sem Flow) | .error e => .raise e).onRaise (cameBack X.env)).wrap Kf Jf gd lv) none (gd false) (lv []) c p [] :: fs) id :=
          { pn := gc.pn, ip := fun q hq => (List.mem_append.mp hq).elim (fun z => gc.ip q z) (fun z => fpS _ (of_pinsAt z).1), apart := gc.apart, over := (gl _).over, split := (gl (fun r => ((match r with | .ok f => (.pure f : Sem Flow) | .error e => .raise e).onRaise (cameBack X.env)).wrap Kf Jf gd lv)).split, guard := (gl (fun r => ((match r with | .ok f => (.pure f : Sem Flow) | .error e => .raise e).onRaise (cameBack X.env)).wrap Kf Jf gd lv)).guard, gd := rfl }
        have un : ∀ {ys7 : List V} {s7 : Shared} {σ7 : L2.St} {H7 : Hp}, GI X S (ip ++ pinsAt fp s5.heap) ys7 σ7 H7 s7 → GI X S ip ys7 σ7 H7 s7 ∧ tn (i + 1) s7.heap ∧ ∀ b ∈ fp, H7 b = none := fun {ys7 s7 σ7 H7} hG => by
          obtain ⟨acc7, c7, r7, I7⟩ := hG
          refine ⟨⟨acc7, c7, r7, Inv.unpinned (pins := (S, lstObj acc7 c7) :: ip) (pl := pinsAt fp s5.heap) I7⟩, T.keep _ _ _ st5 fun b hb o e => ?_, fun b hb => ?_⟩
          · exact (I7.pin (b, o) (List.mem_append_right _ (List.mem_cons_of_mem _ (List.mem_append_right _ (mem_pinsAt hb e))))).1
          · obtain ⟨o, e, d⟩ := T.obj _ _ st5 b hb
            exact (I7.pin (b, o) (List.mem_append_right _ (List.mem_cons_of_mem _ (List.mem_append_right _ (mem_pinsAt hb e))))).2.1
        refine hb.run A S (ip ++ pinsAt fp s5.heap) R n ys s₀ _ _ _ _ id id s6 σ6 H6 { D with nx := N, ct := N, bk := D.nx } g2 hn ⟨fun n' ys' s₀' s7 f hn' hs7 => ?_, fun n' s₀' x s7 hx => ee n' s₀' x s7 hx⟩ ⟨acc, cc, r, I6⟩ q6
        cases f with
        | next =>
          obtain ⟨σ7, H7, I7, n7⟩ := hs7
          obtain ⟨m', hm, w7⟩ := hN ys' σ7 H7 n7
          obtain ⟨u1, u2, u3⟩ := un I7
          exact seg_again rfl (ih m' hm (i + 1) n' ys' s₀' s7 σ7 H7 hn' w7 u1 u2 u3)
        | cont =>
          obtain ⟨σ7, H7, I7, n7⟩ := hs7
          obtain ⟨m', hm, w7⟩ := hN ys' σ7 H7 n7
          obtain ⟨u1, u2, u3⟩ := un I7
          exact seg_again rfl (ih m' hm (i + 1) n' ys' s₀' s7 σ7 H7 hn' w7 u1 u2 u3)
        | brk =>
          obtain ⟨σ7, H7, I7, n7⟩ := hs7
          exact seg_leaf (.ok .next) (k.ok n' ys' s₀' s7 .next hn' ⟨σ7, H7, (un I7).1, n7⟩)
        | ret v =>
          obtain ⟨v7, σ7, H7, I7, rv, n7⟩ := hs7
          exact seg_leaf (.ok (.ret v)) (k.ok n' ys' s₀' s7 (.ret v) hn' ⟨v7, σ7, H7, (un I7).1, rv, n7⟩)
  exact loop m0 0 n ys s₀ s2 σ H2 hn w0 ⟨acc0, cc0, r0, I2⟩ st2 fun b hb => (f2 b hb).1
end
end TW
namespace TW
open PySem PySem.Spec PyProof.Rows L2
/-! ### generator defs: promises, calls, readings -/
section
variable {P : Program} {w : World} {K : PySem.W.Frag} {mg : Str → Option Value} {base : Heap} {k : Nat} {x m qual : Str} {N ps : List Str} {sp : SpG} {f C : Addr} {fd : FuncData} {params : Arguments} {body : List Stmt} {scope : Scope}
theorem gok (F : FunD K x qual params body scope [] [] f fd) (S : GScope N ps scope) (len : ∀ vs H Q E, sp vs H Q E → vs.length = ps.length)
    (hbody : ∀ (cdv : Value) (A : Around) (outer : List Env) (s : Shared) (H : Hp) (vs : List V) (Q : List V → Hp → Prop) (E : XK) (pn : List (Addr × Obj)), Room k (A.deeper (envOfC qual scope s.heap.objs.size f cdv)) → sp vs H Q E →
      ∃ t, GSs (gcxOf P w K mg base N qual scope f cdv A outer s H E pn) body t ∧ t { nx := fun ys _ H' => Q ys H', rt := fun ys v H' => v = .non ∧ Q ys H' } [] (start N vs) H) :
    GFn P w K mg base (k + 1) f fd ps sp := by
  obtain ⟨oc, od, dV, kV, doc, pm, an, cdv, ct, osl, rfl, lk, hcd, _, _⟩ := F.ex
  exact gfn_of lk hcd S len fun A outer s H vs Q E pn hr hsp => hbody cdv A outer s H vs Q E pn hr hsp
structure DmG (P : Program) (w : World) (K : PySem.W.Frag) (mg : Str → Option Value) (base : Heap) (k : Nat) (C : Addr) (m : Str) (ps : List Str) (sp : SpG) : Prop where
  ex : ∃ f fd, Cls K C ∧ Meth K C m f ∧ Binds K fd ps [] ∧ GFn P w K mg base k f fd ps sp
theorem mk_DmG (c : Cls K C) (g : Meth K C m f) (h : ∃ fd, FunD K m qual params body scope [] [] f fd)
    (hb : ∀ (kV doc pm : Value) (an : Option Addr) (cdv ct : Value) (us : List Value), us.length = ps.length → bindArgs (PySem.W.fnOf m qual params body scope .none kV doc pm an cdv ct) ⟨us, []⟩ = pure (ps.zip us))
    (ok : ∀ fd, FunD K m qual params body scope [] [] f fd → GFn P w K mg base k f fd ps sp) : DmG P w K mg base k C m ps sp := by
  obtain ⟨fd, F⟩ := h
  exact ⟨f, fd, c, g, F.bindsN hb, ok fd F⟩
end
section
variable {X : Cx} {k : Nat} {C : Addr} {ps : List Str} {sp : SpG} {m : Str} {p pos pos' apos : Pos} {e o : Expr} {es : List Expr} {ta : TE} {t : TA}
/-- list(o.m(e, ..)) of a generator method that raises nothing -/
theorem d_listM {pl : Sem Bool} (D : DmG X.prog X.w X.K X.mg X.base k C m ps sp) (hr : Room (k + 3) X.A) (hb : X.mg "list" = none) (he : PE X o ta) (ha : PA X (e :: es) t) (hg : Gl X "list" := by rfl)
    (hst : starEach (e :: es) X.env = (false, eval e X.env) :: starEach es X.env := by rfl) (hpl : (backTo pos' (starEach es X.env)).any (·.1) = false := by rfl)
    (ht : eval (.Call (.Attribute o m apos) (e :: es) [] pos') X.env = (do
      let ov ← eval o X.env
      standAt apos.atName
      let (f, first) ← holding [ov] (getMethod ov m pl)
      callWith pos' f first (backTo pos' (starEach (e :: es) X.env)) (backToKw pos' (keywordEach [] X.env))) := by rfl)
    (hs : starEach [.Call (.Attribute o m apos) (e :: es) [] pos'] X.env = (false, eval (.Call (.Attribute o m apos) (e :: es) [] pos') X.env) :: starEach [] X.env := by rfl) :
    PE X (.Call (.Name "list" p) [.Call (.Attribute o m apos) (e :: es) [] pos'] [] pos) (tListG (tMethG C m sp [] (fun _ _ _ => False) ta t)) := by
  obtain ⟨f, fd, c, mf, b, F⟩ := D.ex
  refine pe_listG (pgen_meth (pl := pl) he c mf F (hr.mono (by omega)) b .nil ha hst hpl ht) ?_ (fun _ _ _ z => z.elim) hr hg hb rfl (he := hs)
  rintro pins σ H s e' s' _ ⟨_, _, _, _, _, _, _, _, _, _, _, _, z⟩
  exact z.elim
end
section
variable {t : TS} {u tb : TGn} {D : GEnds} {ys : List V} {σ : L2.St} {H : Hp} {wi : TI} {g : TG} {te : TE}
def kGFor (J : It) (g : TG) (tb : TGn) (D : GEnds) (ys : List V) (σ : L2.St) (H : Hp) : Prop := ∃ W : Nat → Nat → List V → L2.St → Hp → Prop, (∃ m, W 0 m ys σ H) ∧ ∀ i m ys σ H, W i m ys σ H →
  (J.stop i H ∧ D.nx ys σ H) ∨ (J.go i H ∧ ∃ N : List V → L2.St → Hp → Prop, (∀ ys' σ' H', N ys' σ' H' → ∃ m', m' < m ∧ W (i + 1) m' ys' σ' H') ∧ ∀ x H', J.yld i H x H' → g x σ H' fun σ2 H2 => tb { D with nx := N, ct := N, bk := D.nx } ys σ2 H2)
theorem rg_plain (h : t { nx := fun σ' H' => u D ys σ' H', rt := D.rt ys, bk := D.bk ys, ct := D.ct ys } σ H) : tGThen (tPlain t) u D ys σ H := h
theorem rg_for (h : wi σ H fun J H1 => kGFor J g tb { D with nx := fun ys' σ' H' => u D ys' σ' H' } ys σ H1) : tGThen (tGFor wi g tb) u D ys σ H := h
theorem rg_forN (h : wi σ H fun J H1 => kGFor J g tb D ys σ H1) : tGThen (tGFor wi g tb) tG0 D ys σ H := h
theorem rg_yieldN (h : ys.length < sizeLine) (q : te σ H fun x H1 => D.nx (ys ++ [x]) σ H1) : tGThen (tGYield te) tG0 D ys σ H := ⟨h, q⟩
theorem rg_nx {nx : List V → L2.St → Hp → Prop} {rt : List V → VK} {bk ct : List V → L2.St → Hp → Prop} (h : nx ys σ H) : GEnds.nx { nx := nx, rt := rt, bk := bk, ct := ct } ys σ H := h
theorem gk_range {lo : Int} {n : Nat} (I : Nat → List V → L2.St → Hp → Prop) (h0 : I 0 ys σ H)
    (hs : ∀ k ys σ H, k < n → I k ys σ H → g (.int (lo + k)) σ H fun σ2 H2 => tb { D with nx := I (k + 1), ct := I (k + 1), bk := D.nx } ys σ2 H2) (hd : ∀ ys σ H, I n ys σ H → D.nx ys σ H) : kGFor (Itr lo n) g tb D ys σ H := by
  refine ⟨fun i m ys σ H => m = n - i ∧ i ≤ n ∧ I i ys σ H, ⟨n, by omega, Nat.zero_le _, h0⟩, ?_⟩
  rintro i m ys σ H ⟨rfl, hi, p⟩
  by_cases hlt : i < n
  · refine .inr ⟨hlt, I (i + 1), fun ys' σ' H' q => ⟨n - (i + 1), by omega, rfl, hlt, q⟩, fun x H' y => ?_⟩
    obtain ⟨e1, e2⟩ := y
    subst e1
    subst e2
    exact hs i ys σ _ hlt p
  · have e : i = n := by omega
    subst e
    exact .inl ⟨Nat.le_refl _, hd ys σ H p⟩
end
/-! ### events -/
inductive Ev3 (K : PySem.W.Frag) (E : Hp) : List V → List (Str × Int × Int) → Prop where
  | nil : Ev3 K E [] []
  | cons {q c t n vs es} : SqT K E q [.str c, .int t, .int n] → Ev3 K E vs es → Ev3 K E (.ref q :: vs) ((c, t, n) :: es)
theorem Ev3.mono {K : PySem.W.Frag} {E E' : Hp} (e : Same E E') {vs : List V} {es : List (Str × Int × Int)} (h : Ev3 K E vs es) : Ev3 K E' vs es := by
  induction h with
  | nil => exact .nil
  | cons a _ ih => exact .cons (sqT_mono e a) ih
theorem Ev3.app {K : PySem.W.Frag} {E : Hp} {vs ws : List V} {es fs : List (Str × Int × Int)} (h : Ev3 K E vs es) (h2 : Ev3 K E ws fs) : Ev3 K E (vs ++ ws) (es ++ fs) := by
  induction h with
  | nil => exact h2
  | cons a _ ih => exact .cons a ih
theorem Ev3.len {K : PySem.W.Frag} {E : Hp} {vs : List V} {es : List (Str × Int × Int)} (h : Ev3 K E vs es) : vs.length = es.length := by
  induction h with
  | nil => rfl
  | cons _ _ ih => simp [ih]
theorem Ev3.get {K : PySem.W.Frag} {E : Hp} {vs : List V} {es : List (Str × Int × Int)} (h : Ev3 K E vs es) : ∀ {i : Nat} {v : V}, vs[i]? = some v → ∃ q c t n, v = .ref q ∧ es[i]? = some (c, t, n) ∧ SqT K E q [.str c, .int t, .int n] := by
  induction h with
  | nil => intro i v e; cases e
  | @cons q c t n vs es a _ ih =>
    intro i v e
    cases i with
    | zero =>
      cases Option.some.inj e
      exact ⟨q, c, t, n, rfl, rfl, a⟩
    | succ i => exact ih (i := i) e
theorem Ev3.eq2 {K : PySem.W.Frag} {E : Hp} {n : Nat} {vs ws : List V} {es : List (Str × Int × Int)} (h : Ev3 K E vs es) : Ev3 K E ws es → Fa2 (Eq2 K E (n + 1)) vs ws := by
  induction h generalizing ws with
  | nil => intro h2; cases h2; exact .nil
  | cons a _ ih =>
    intro h2
    cases h2 with
    | cons b r => exact .cons (.tup a b (Nat.le_of_ble_eq_true rfl) (.cons .str (.cons (.int rfl) (.cons (.int rfl) .nil)))) (ih r)
def evP (K : PySem.W.Frag) (vs : List V) (es : List (Str × Int × Int)) : MP := ⟨fun E => Ev3 K E vs es, fun _ _ e h => h.mono e⟩
/-- the events of one kind in a tick -/
def evT (c : Str) (t lo : Int) (n : Nat) : List (Str × Int × Int) := (List.range n).map fun (i : Nat) => (c, t, lo + i)
theorem evT_succ {c : Str} {t lo : Int} {n : Nat} : evT c t lo (n + 1) = evT c t lo n ++ [(c, t, lo + n)] := by
  unfold evT
  rw [List.range_succ, List.map_append]; rfl
theorem evT_len {c : Str} {t lo : Int} {n : Nat} : (evT c t lo n).length = n := by
  unfold evT
  rw [List.length_map, List.length_range]
namespace HD
/-- a tick's events -/
def evA (d : HD) (t : Nat) : List (Str × Int × Int) := evT "take" t (d.T t) (d.a t).toNat
def evC (d : HD) (t : Nat) : List (Str × Int × Int) := evT "call" t (d.C t) (d.C (t + 1) - d.C t).toNat
def evs (d : HD) (s : Nat) : Nat → List (Str × Int × Int)
  | 0 => []
  | n + 1 => evs d s n ++ (d.evA (s + n) ++ d.evC (s + n))
theorem evs_succ {d : HD} {s n : Nat} : d.evs s (n + 1) = d.evs s n ++ evT "take" ((s : Int) + (n : Int)) (d.T (s + n)) (d.T (s + n + 1) - d.T (s + n)).toNat ++ evT "call" ((s : Int) + (n : Int)) (d.C (s + n)) (d.C (s + n + 1) - d.C (s + n)).toNat := by
  show d.evs s n ++ (evT "take" _ _ _ ++ evT "call" _ _ _) = _
  rw [← List.append_assoc, show d.T (s + n + 1) - d.T (s + n) = d.a (s + n) by show d.T (s + n) + d.a (s + n) - _ = _; omega]
  rfl
theorem evs_len {d : HD} (h : d.ok) (s n : Nat) : (d.evs s n).length ≤ 18 * n := by
  induction n with
  | zero => exact Nat.le_refl _
  | succ n ih =>
    show (d.evs s n ++ (d.evA (s + n) ++ d.evC (s + n))).length ≤ _
    rw [List.length_append, List.length_append]
    unfold evA evC
    rw [evT_len, evT_len]
    have h1 := h.a0 (s + n)
    have h2 := C_step h (s + n)
    omega
end HD
def spEvents (K : PySem.W.Frag) : SpG := fun vs H Q _ => ∃ (F : List MP) (L : List (Addr × HO)) (x : Addr) (d : HD) (s e : Int), vs = [.ref x, .int s, .int e] ∧ d.ok ∧ hallP K x d ∈ F ∧ 0 ≤ s ∧ s ≤ 1000000000000000000 ∧ 0 ≤ e ∧ e ≤ 1000000000000000000 ∧ e - s ≤ 1000 ∧ d.T e.toNat ≤ 4000000000000000000 ∧ S F L H ∧
  ∀ ws H', S (evP K ws (d.evs s.toNat (e - s).toNat) :: F) L H' → Q ws H'
section
variable {K : PySem.W.Frag} {F : List MP} {L : List (Addr × HO)} {H : Hp} {ys : List V} {es : List (Str × Int × Int)} {q x C : Addr} {c m : Str} {t n s e : Int} {d : HD} {E : XK} {ta : TE} {tA : TA} {sp : SpG} {σ : Sl} {Q : VK} {QG : List V → Hp → Prop}
/-- one event more -/
theorem ev_snoc (s : S (cel q (.tup [.str c, .int t, .int n]) :: evP K ys es :: F) L H) : S (evP K (ys ++ [.ref q]) (es ++ [(c, t, n)]) :: F) L H :=
  ((s.put_ (evP K (ys ++ [.ref q]) (es ++ [(c, t, n)])) (fun E z => Ev3.app (z (evP K ys es) (List.mem_cons_of_mem _ List.mem_cons_self)) (.cons (SqT.of (z _ List.mem_cons_self)) .nil)))).sub ((List.Sublist.cons _ (List.Sublist.cons _ (List.Sublist.refl _))).cons_cons _) (List.Sublist.refl _)
theorem ev_snocT {lo : Int} {j : Nat} (s : S (cel q (.tup [.str c, .int t, .int (lo + (j : Int))]) :: evP K ys (evT c t lo j) :: F) L H) : S (evP K (ys ++ [.ref q]) (evT c t lo (j + 1)) :: F) L H := by
  rw [evT_succ]
  exact ev_snoc s
theorem ev_cat {ws : List V} {fs : List (Str × Int × Int)} (s : S (evP K ws fs :: evP K ys es :: F) L H) : S (evP K (ys ++ ws) (es ++ fs) :: F) L H :=
  ((s.put_ (evP K (ys ++ ws) (es ++ fs)) (fun E z => Ev3.app (z (evP K ys es) (List.mem_cons_of_mem _ List.mem_cons_self)) (z (evP K ws fs) List.mem_cons_self)))).sub ((List.Sublist.cons _ (List.Sublist.cons _ (List.Sublist.refl _))).cons_cons _) (List.Sublist.refl _)
theorem ev_len (s : S F L H) (h : evP K ys es ∈ F) : ys.length = es.length := by
  obtain ⟨E, _, z, _⟩ := s.ex
  exact Ev3.len (z _ h)
def rMethG (C : Addr) (m : Str) (sp : SpG) (E : XK) (t : TA) (σ : Sl) (x : V) (H : Hp) (Q : List V → Hp → Prop) : Prop := ∃ a dx fs, x = .ref a ∧ H a = some (.ins C dx fs) ∧ fs.lookup m = none ∧ t σ H fun vs H2 => sp (x :: vs) H2 Q E
def kListG (Q : VK) : List V → Hp → Prop := fun out H2 => ∀ p, H2 p = none → Q (.ref p) (upd H2 p (.lst out))
theorem r_listG (h : ta σ H fun x H1 => rMethG C m sp E tA σ x H1 (kListG Q)) : tListG (tMethG C m sp [] E ta tA) σ H Q := by
  unfold tListG tMethG
  simp only [List.append_nil]
  exact h
theorem x_methG (s : S F L H) (h : hallP K x d ∈ F) (hl : ∀ pt pc pl ql, (hfs d pt pc pl ql).lookup m = none) (q : tA σ H fun vs H2 => sp (.ref x :: vs) H2 QG E) : rMethG (hC K) m sp E tA σ (.ref x) H QG := by
  obtain ⟨dx, pt, pc, pl, ql, h1, _⟩ := s.phi h
  exact ⟨x, dx, _, rfl, h1, hl _ _ _ _, q⟩
theorem c_events (h : S F L H) (m : hallP K x d ∈ F) (ok : d.ok) (s0 : 0 ≤ s) (s1 : s ≤ 1000000000000000000) (e0 : 0 ≤ e) (e1 : e ≤ 1000000000000000000) (l : e - s ≤ 1000) (hT : d.T e.toNat ≤ 4000000000000000000)
    (k : ∀ ws p H', S (evP K ws (d.evs s.toNat (e - s).toNat) :: F) ((p, .lst ws) :: L) H' → Q (.ref p) H') : spEvents K [.ref x, .int s, .int e] H (kListG Q) E :=
  ⟨F, L, x, d, s, e, rfl, ok, m, s0, s1, e0, e1, l, hT, h, fun ws H' hS p hp => k ws p _ (hS.new hp)⟩
theorem T_le9 (h : d.ok) (t : Nat) : d.T t ≤ 9 * t := by
  induction t with
  | zero => exact Int.le_refl _
  | succ t ih =>
    show d.T t + d.a t ≤ _
    have := h.a0 t
    omega
end
end TW
namespace TW
open PySem PySem.Spec PyProof.Rows L2
/-! ### ticks listed by what happens in them -/
theorem HD.C_gain0 {d : HD} (h : d.ok) (g : d.gain = 0) (n : Nat) : d.C n ≤ d.C d.per := by
  by_cases hn : n ≤ d.per
  · exact HD.C_mono h hn
  · have e := HD.C_div h n (by omega)
    have p0 := HD.per_pos h
    have ge := HD.gain_eq h
    have e3 : (n - d.per) % d.per < d.per := Nat.mod_lt _ p0
    have e2 := HD.C_mono h (show d.per + (n - d.per) % d.per ≤ 2 * d.per by omega)
    rw [g] at e
    omega
theorem CallAt.lt {d : HD} (h : d.ok) {k : Int} {v : V} {n : Nat} (c : CallAt d k v) (hk : k < d.C n) : ∃ u : Nat, v = .int u ∧ d.C u ≤ k ∧ k < d.C (u + 1) := by
  rcases c with ⟨_, b, g⟩ | c
  · have := HD.C_gain0 h g n
    omega
  · exact c
theorem step_uniq {g : Nat → Int} (mono : ∀ t, g t ≤ g (t + 1)) {k : Int} {t u : Nat} (h1 : g t ≤ k) (h2 : k < g (t + 1)) (h3 : g u ≤ k) (h4 : k < g (u + 1)) : t = u := by
  have m : ∀ a b : Nat, a ≤ b → g a ≤ g b := fun a b hab => by
    induction b with
    | zero => rw [show a = 0 by omega]; exact Int.le_refl _
    | succ b ih =>
      by_cases z : a = b + 1
      · rw [z]; exact Int.le_refl _
      · exact Int.le_trans (ih (by omega)) (mono b)
  rcases Nat.lt_trichotomy t u with y | y | y
  · have := m (t + 1) u y
    omega
  · exact y
  · have := m (u + 1) t y
    omega
def reps (g : Nat → Int) : Nat → List Int
  | 0 => []
  | n + 1 => reps g n ++ List.replicate (g (n + 1) - g n).toNat (n : Int)
theorem reps_len {g : Nat → Int} (g0 : g 0 = 0) (mono : ∀ t, g t ≤ g (t + 1)) (n : Nat) : ((reps g n).length : Int) = g n := by
  induction n with
  | zero => exact g0.symm
  | succ n ih =>
    have := mono n
    show ((reps g n ++ List.replicate (g (n + 1) - g n).toNat (n : Int)).length : Int) = _
    rw [List.length_append, List.length_replicate]
    omega
theorem reps_get {g : Nat → Int} (g0 : g 0 = 0) (mono : ∀ t, g t ≤ g (t + 1)) {n k : Nat} (hk : (k : Int) < g n) : ∃ t : Nat, t < n ∧ (reps g n).getD k 0 = (t : Int) ∧ g t ≤ k ∧ (k : Int) < g (t + 1) := by
  induction n with
  | zero => rw [g0] at hk; omega
  | succ n ih =>
    have hl := reps_len g0 mono n
    by_cases z : (k : Int) < g n
    · obtain ⟨t, a, b, c, e⟩ := ih z
      refine ⟨t, by omega, ?_, c, e⟩
      rw [← b, List.getD_eq_getElem?_getD, List.getD_eq_getElem?_getD]
      show (reps g n ++ _)[k]?.getD 0 = _
      rw [List.getElem?_append_left (by omega)]
    · refine ⟨n, by omega, ?_, by omega, hk⟩
      rw [List.getD_eq_getElem?_getD]
      show (reps g n ++ _)[k]?.getD 0 = _
      rw [List.getElem?_append_right (by omega), List.getElem?_replicate, if_pos (by omega)]
      rfl
theorem flat_rep {v : V} {k : Nat} : (List.replicate k [v]).flatten = List.replicate k v := by
  induction k with
  | zero => rfl
  | succ k ih => rw [List.replicate_succ, List.flatten_cons, ih]; rfl
theorem reps_snoc {g : Nat → Int} {n k : Nat} (h : k = (g (n + 1) - g n).toNat) : (reps g n).map V.int ++ List.replicate k (V.int (n : Int)) = (reps g (n + 1)).map V.int := by
  show _ = (reps g n ++ List.replicate (g (n + 1) - g n).toNat (n : Int)).map V.int
  rw [List.map_append, List.map_replicate, h]
theorem apn_lt7 {a b : Int} {k : Nat} (h : k < apn a b 7) : a + (k : Int) * 7 < b := by
  have e := apn_eq (a := a) (b := b) (c := 7) (by decide)
  split at e <;> omega
theorem HD.evs0_succ {d : HD} {n : Nat} : d.evs 0 (n + 1) = d.evs 0 n ++ evT "take" (n : Int) (d.T n) (d.T (n + 1) - d.T n).toNat ++ evT "call" (n : Int) (d.C n) (d.C (n + 1) - d.C n).toNat := by
  rw [HD.evs_succ, show ((0 : Nat) : Int) = 0 from rfl, Int.zero_add, Nat.zero_add]
end TW
namespace TW
open PySem PySem.Spec PyProof.Rows L2
/-! ### the head: facts of the defs, one more Bool for the properties -/
def propB (K : PySem.W.Frag) (C : Addr) (f : Str) : Bool := He.eqO (PySem.W.findIn K (.ref C) f) (some (some (.ref (prA K C f).1))) && (He.eqO (PySem.W.specialIn K (.ref (prA K C f).1) "__get__") (some (some (.builtin "property.__get__"))) &&
  (decide (PySem.W.takesIn K (.ref (prA K C f).1) = some true) && (match PySem.W.recIn K (prA K C f).1 "property" with
    | some (.ref g :: _) => decide (g = (prA K C f).2)
    | _ => false)))
theorem propB_ok {K : PySem.W.Frag} {C : Addr} {f : Str} (h : propB K C f = true) : PropOf K C f (prA K C f).1 (prA K C f).2 := by
  obtain ⟨h1, h2⟩ := He.ba h
  obtain ⟨h2, h3⟩ := He.ba h2
  obtain ⟨h3, h4⟩ := He.ba h3
  refine ⟨He.eqO_ok h1, He.eqO_ok h2, of_decide_eq_true h3, ?_⟩
  cases e : PySem.W.recIn K (prA K C f).1 "property" with
  | none => rw [e] at h4; cases h4
  | some r =>
    rw [e] at h4
    cases r with
    | nil => cases h4
    | cons v rest =>
      cases v with
      | ref g => exact ⟨rest, by rw [of_decide_eq_true h4]⟩
      | _ => cases h4
abbrev AlW : Type := He.AlD × Bool
def obsW (n : Nat) (fa : List He.Fa) (fn : List He5.DefA) (ex : PySem.W.Frag → Bool) (g : Addr → Option Obj) : AlW := (He5.obsA fa fn (He.frG g (He5.asA g n)), ex (He.frG g (He5.asA g n)))
def SaysW (fa : List He.Fa) (fn : List He5.DefA) (ex : PySem.W.Frag → Bool) (K : PySem.W.Frag) : Prop := He5.SaysA fa fn K ∧ ex K = true
def hookW (n : Nat) (fa : List He.Fa) (fn : List He5.DefA) (ex : PySem.W.Frag → Bool) : PySem.W.Hook where
  α := AlW
  obs := fun s => obsW n fa fn ex s.heap.get?
  val := fun _ => (He5.valA fn, true)
  says := fun _ h => ∃ K : PySem.W.Frag, K.In h ∧ SaysW fa fn ex K
  of := fun _ s e => ⟨_, He.frG_in, congrArg (fun z : AlW => z.1) e, congrArg (fun z : AlW => z.2) e⟩
  keeps := fun _ _ _ ⟨K, hK, c⟩ k => ⟨K, PySem.W.Frag.In.keeps hK k, c⟩
theorem obsW_eq {n : Nat} {fa : List He.Fa} {fn : List He5.DefA} {ex : PySem.W.Frag → Bool} {g : Addr → Option Obj} {s : Shared} (h : ∀ a, g a = s.heap.get? a) : obsW n fa fn ex g = (hookW n fa fn ex).obs s := by
  have e : g = s.heap.get? := funext h
  rw [e] <;> rfl
end TW
namespace TW
open PySem PySem.Spec PyProof.Rows L2
/-! ### the head of a law whose defs make lambdas: the tables of code objects are kept out of K -/
def csOf (K : PySem.W.Frag) (l : List (PySem.W.Frag → Addr)) : List (Addr × Addr) := l.map fun at_ => (codeAt K (at_ K), tabAt K (codeAt K (at_ K)))
def hdB (K : PySem.W.Frag) (c P : Addr) : Bool := match K.lookup c with
  | some ⟨.type t, _, .fields vs, _⟩ => decide (t = "code") && (match (vs[11]? : Option Value) with
    | some (Value.ref P') => decide (P' = P)
    | _ => false) && (match vs.getD 18 .none with
    | .str _ _ => true
    | _ => false) && (match vs.getD 7 .none with
    | .int _ _ => true
    | _ => false) && (match vs.getD 9 .none with
    | .bool _ => true
    | _ => false) && (match vs.getD 10 .none with
    | .int _ _ => true
    | _ => false) && decide (c ≠ P)
  | _ => false
theorem hdB_ok {K : PySem.W.Frag} {h : Heap} {c P : Addr} (X : K.In h) (e : hdB K c P = true) : PySem.W.CodeHd h c P := by
  unfold hdB at e
  split at e
  · rename_i t od vs sl lk
    simp only [Bool.and_eq_true] at e
    obtain ⟨⟨⟨⟨⟨⟨e1, e2⟩, e3⟩, e4⟩, e5⟩, e6⟩, e7⟩ := e
    have e1 := of_decide_eq_true e1
    subst e1
    split at e2
    · rename_i P' h11
      have e2 := of_decide_eq_true e2
      subst e2
      split at e3
      · rename_i file tf h18
        split at e4
        · rename_i fl tg h7
          split at e5
          · rename_i b h9
            split at e6
            · rename_i tx tt h10
              refine ⟨_, vs, file, tf, fl, tg, b, tx, tt, X _ _ lk, rfl, rfl, h11, ?_, h18, h7, h9, h10, of_decide_eq_true e7⟩
              rw [Array.getD_eq_getD_getElem?, h11]
              rfl
            · cases e6
          · cases e5
        · cases e4
      · cases e3
    · cases e2
  · cases e
def emB (g : Addr → Option Obj) (T : Addr) : Bool := match g T with
  | some ⟨.none, none, .fields vs, sl⟩ => decide (vs.size = 0) && decide (sl.size = 0)
  | _ => false
theorem emB_ok {g : Addr → Option Obj} {T : Addr} (e : emB g T = true) : g T = some { cls := .none, data := .fields #[] } := by
  unfold emB at e
  split at e
  · rename_i vs sl lk
    obtain ⟨e1, e2⟩ := He.ba e
    rw [lk, Array.eq_empty_of_size_eq_zero (of_decide_eq_true e1), Array.eq_empty_of_size_eq_zero (of_decide_eq_true e2)]
  · cases e
def tabsB (g : Addr → Option Obj) (K : PySem.W.Frag) (l : List (PySem.W.Frag → Addr)) : Bool := (csOf K l).all (fun p => emB g p.2 && (K.lookup p.2).isNone && hdB K p.1 p.2) && decide ((csOf K l).map (·.2)).Nodup
def TabsAt (h : Heap) (K : PySem.W.Frag) (l : List (PySem.W.Frag → Addr)) : Prop := (∀ p ∈ csOf K l, h.get? p.2 = some { cls := .none, data := .fields #[] } ∧ K.lookup p.2 = none ∧ PySem.W.CodeHd h p.1 p.2) ∧ ((csOf K l).map (·.2)).Nodup
theorem tabsB_ok {h : Heap} {K : PySem.W.Frag} {l : List (PySem.W.Frag → Addr)} (X : K.In h) (e : tabsB h.get? K l = true) : TabsAt h K l := by
  obtain ⟨e1, e2⟩ := He.ba e
  refine ⟨fun p hp => ?_, of_decide_eq_true e2⟩
  obtain ⟨a, b⟩ := He.ba (List.all_eq_true.mp e1 p hp)
  obtain ⟨a, c⟩ := He.ba a
  exact ⟨emB_ok a, Option.isNone_iff_eq_none.mp c, hdB_ok X b⟩
def frT (n : Nat) (l : List (PySem.W.Frag → Addr)) (g : Addr → Option Obj) : PySem.W.Frag :=
  let as := He5.asA g n
  let ts := (csOf (He.frG g as) l).map (·.2)
  He.frG g (as.filter fun a => !(ts.contains a))
abbrev AlT : Type := AlW × Bool
def obsT (n : Nat) (fa : List He.Fa) (fn : List He5.DefA) (ex : PySem.W.Frag → Bool) (l : List (PySem.W.Frag → Addr)) (g : Addr → Option Obj) : AlT :=
  ((He5.obsA fa fn (frT n l g), ex (frT n l g)), tabsB g (frT n l g) l)
def hookT (n : Nat) (fa : List He.Fa) (fn : List He5.DefA) (ex : PySem.W.Frag → Bool) (l : List (PySem.W.Frag → Addr)) : PySem.W.Hook where
  α := AlT
  obs := fun s => obsT n fa fn ex l s.heap.get?
  val := fun _ => ((He5.valA fn, true), true)
  says := fun _ h => ∃ K : PySem.W.Frag, K.In h ∧ SaysW fa fn ex K ∧ TabsAt h K l
  of := fun _ s e => ⟨frT n l s.heap.get?, He.frG_in, ⟨congrArg (fun z : AlT => z.1.1) e, congrArg (fun z : AlT => z.1.2) e⟩, tabsB_ok He.frG_in (congrArg (fun z : AlT => z.2) e)⟩
  keeps := fun _ _ _ ⟨K, hK, c, d, nd⟩ k => ⟨K, PySem.W.Frag.In.keeps hK k, c, fun p hp => ⟨k _ _ (d p hp).1, (d p hp).2.1, (d p hp).2.2.keeps k⟩, nd⟩
theorem obsT_eq {n : Nat} {fa : List He.Fa} {fn : List He5.DefA} {ex : PySem.W.Frag → Bool} {l : List (PySem.W.Frag → Addr)} {g : Addr → Option Obj} {s : Shared} (h : ∀ a, g a = s.heap.get? a) : obsT n fa fn ex l g = (hookT n fa fn ex l).obs s := by
  have e : g = s.heap.get? := funext h
  rw [e] <;> rfl
end TW
namespace TW
open PySem PySem.Spec PyProof.Rows L2
/-! ### errors -/
section
variable {X : Cx} {W : WX} {e : Expr}
theorem pe_never : PE X e (fun _ _ _ => False) := ⟨fun _ _ _ _ _ _ h => h.elim⟩
theorem takes0 : Takes X (fun _ _ _ _ => False) := fun _ _ ⟨_, _, _, _, _, _, _, _, _, _, _, _, _, _, _, _, w⟩ => w.elim
/-- xs.count(y), flat items -/
def rCntF (K : PySem.W.Frag) : V → List V → Hp → VK → Prop := fun x xs H Q => ∃ (p : Addr) (ys : List V) (y : V), x = .ref p ∧ xs = [y] ∧ SqL K H p ys ∧ flatV y = true ∧ ys.all flatV = true ∧ Q (.int (ys.countP fun z => eqV z y : Nat)) H
theorem count_flat {y : V} : ∀ {ys : List V} {us : List Value}, Vals ys us → ys.all flatV = true → us.countP (eqU y) = ys.countP fun z => eqV z y
  | _, _, .nil, _ => rfl
  | z :: ys, u :: us, .cons r t, f => by
    rw [List.all_cons, Bool.and_eq_true] at f
    rw [List.countP_cons, List.countP_cons, count_flat t f.2, eqU_of r f.1]
theorem mt_lcountF : MtR X "list.count" (rCntF X.K) := by
  intro pins s σ H x xs v us Q I rx rxs h
  obtain ⟨p, ys, y, rfl, rfl, hs, fy, fys, q⟩ := h
  cases rx
  obtain ⟨u, rfl, ru⟩ := rxs.one
  obtain ⟨its, rv, ⟨⟨cls, dd, data, sl⟩, n, ho, hc, hdn, hd⟩, hlen⟩ := I.list hs
  simp only at hc hd
  subst hc hd
  refine call_meets PySem.F.slot_list_count ⟨_, ho, rfl⟩ PySem.F.entry_list_count (PySem.F.args_list_count_2 _ _)
    (SeqAt.list_countAt p its.toArray n dd sl u (eqU y)) ⟨ho, fun u' hu' => mem_eqAt ru fy rv fys u' (by simpa using hu'), ?_⟩
  have ec : its.toArray.toList.countP (eqU y) = ys.countP fun z => eqV z y := count_flat rv fys
  refine ⟨.int (ys.countP fun z => eqV z y : Nat), H, I.tok _, ⟨s.toks, ?_⟩, q⟩
  show Value.int ((its.toArray.toList.countP (eqU y) : Nat) : Int) s.toks = _
  rw [ec]
theorem m_lcountF {K : PySem.W.Frag} (hK : X.K = K) : MtR X "list.count" (rCntF K) := by subst hK; exact mt_lcountF
theorem m_index {K : PySem.W.Frag} (hK : X.K = K) : MtR X "list.index" (rIndex K) := by subst hK; exact mt_index
end
/-! a call whose exceptions are wished for -/
section
variable {X : Cx} {W : WX} {k i : Nat} {C : Addr} {ps : List Str} {sp : Sp} {x m a : Str} {p p1 p2 pos apos : Pos} {e o : Expr} {es : List Expr} {ta : TE} {t : TA} {E : XK}
theorem d_callX (D : Df X.prog X.w X.K X.mg X.base (L2.CX X.prog X.w) k x ps sp) (tk : Takes X W) (hr : Room k X.A) (ha : PA X (e :: es) t) (hg : Gl X x := by rfl) (hdb : (x == ("__debug__" : Str)) = false := by decide)
    (he : starEach (e :: es) X.env = (false, eval e X.env) :: starEach es X.env := by rfl) (hpl : (backTo pos (starEach es X.env)).any (·.1) = false := by rfl) : PE X (.Call (.Name x p) (e :: es) [] pos) (tCallS sp (WE W) t) := by
  obtain ⟨f, fd, mf, kp, b, F⟩ := D.ex
  exact pe_callS F hr hg mf kp b (fun σ => passAt tk σ) ha hdb he hpl
/-- a method called where what it may let out does not ask for the slots -/
theorem d_methX {pl : Sem Bool} (D : Dm X.prog X.w X.K X.mg X.base (L2.CX X.prog X.w) k C m ps sp) (tk : Takes X (fun cls d _ H => E cls d H)) (hr : Room k X.A) (he : PE X o ta) (ha : PA X (e :: es) t)
    (hst : starEach (e :: es) X.env = (false, eval e X.env) :: starEach es X.env := by rfl) (hpl : (backTo pos (starEach es X.env)).any (·.1) = false := by rfl)
    (ht : eval (.Call (.Attribute o m apos) (e :: es) [] pos) X.env = (do
      let ov ← eval o X.env
      standAt apos.atName
      let (f, first) ← holding [ov] (getMethod ov m pl)
      callWith pos f first (backTo pos (starEach (e :: es) X.env)) (backToKw pos (keywordEach [] X.env))) := by rfl) :
    PE X (.Call (.Attribute o m apos) (e :: es) [] pos) (tMeth C m sp [] E ta t) := by
  obtain ⟨f, fd, c, mf, b, F⟩ := D.ex
  exact pe_meth he c mf F hr b .nil (passes_call tk fun _ _ _ _ h => h) ha hst hpl ht
/-- a closure of no parameter, called in a try -/
def tCloS (P : Program) (w : World) (K : PySem.W.Frag) (mg : Str → Option Value) (base : Heap) (k i : Nat) (W : WX) : TE := fun σ H Q => ∃ f o sp, σ[i]? = some (some (.ref f)) ∧ H f = some (ExO f o) ∧ CloOk P w K mg base (L2.CX P w) k f o 0 sp ∧ sp [] H Q (WE W σ)
theorem pe_cloS (tk : Takes X W) (hr : Room k X.A) (hN : X.N[i]? = some a) (hv : Vis X.env.scope a) (hd : (a == ("__debug__" : Str)) = false := by decide) (hcd : (a == ("__classdict__" : Str)) = false := by decide) :
    PE X (.Call (.Name a p1) [] [] p2) (tCloS X.prog X.w X.K X.mg X.base k i W) := by
  refine ⟨fun pins s σ H Q I h => ?_⟩
  obtain ⟨f, o, sp, hs, hf, F, h⟩ := h
  refine wpAny_Call_Name_kw (thn ((pe_var (pos := p1) (i := i) hN hv hd hcd).run pins s σ H (fun v H1 => v = .ref f ∧ H1 = H) I ⟨.ref f, hs, rfl, rfl⟩) fun u s1 ⟨v, H1, I1, r1, q1⟩ => ?_)
  obtain ⟨ev, eH⟩ := q1
  subst ev
  subst eH
  cases r1
  obtain ⟨fd, hfd⟩ := F.fn
  have of1 := exO_get I1.hok hf
  refine PySem.W.callWith_F0 ⟨_, _, fd, _, by rw [of1, ← hfd]⟩ ?_
  refine wpAny_call (codeAny_mono (F.run X.A X.stack s1 _ [] [] Q (WE W σ) hr I1.env0 .nil hf h) fun r s' hq => ?_)
  match r, hq with
  | .error e, hq => exact passAt tk σ _ _ _ e s' I1 hq
  | .ok (.ret u), hq => exact I1.after hq
theorem d_cloS (P : Program) (w : World) (K : PySem.W.Frag) (mg : Str → Option Value) (base : Heap) (k i : Nat) (tk : Takes X W) (hr : Room k X.A) (hN : X.N[i]? = some a := by rfl) (hv : Vis X.env.scope a := by first | exact Or.inl rfl | exact Or.inr rfl)
    (hd : (a == ("__debug__" : Str)) = false := by decide) (hcd : (a == ("__classdict__" : Str)) = false := by decide)
    (h1 : X.prog = P := by rfl) (h2 : X.w = w := by rfl) (h3 : X.K = K := by rfl) (h4 : X.mg = mg := by rfl) (h5 : X.base = base := by rfl) :
    PE X (.Call (.Name a p1) [] [] p2) (tCloS P w K mg base k i W) := by
  subst h1 h2 h3 h4 h5
  exact pe_cloS tk hr hN hv hd hcd
instance {sp : Sp} {E : L2.St → XK} {t : TA} {σ : Sl} {H : Hp} {Q : VK} : Step (tCallS sp E t σ H Q) (t σ H fun vs H1 => sp vs H1 Q (E σ)) := ⟨id⟩
end
/-! classes of errors -/
abbrev veT : List Value := [.type "ValueError", .type "Exception", .type "BaseException", .type "object"]
def errL : List Str := ["InvalidTick", "InvalidNumber", "InvalidDigits", "TooMany", "InvalidLimit", "Contradiction", "InvalidName", "UnknownName", "InvalidHall", "TextFault", "InvalidCode", "InvalidOperation"]
structure XrK (K : PySem.W.Frag) (C : Addr) : Prop where
  x : PySem.W.excIn K C veT "ValueError.__new__" = true
  k : PySem.W.keepIn K (.ref C) = true
  b : PySem.W.subIn K (.ref C) (.type "BaseException") = some true
  t : PySem.W.typeIn K (.ref C) = some (.type "type")
def xrB (K : PySem.W.Frag) (C : Addr) : Bool := PySem.W.excIn K C veT "ValueError.__new__" && (PySem.W.keepIn K (.ref C) && (decide (PySem.W.subIn K (.ref C) (.type "BaseException") = some true) && decide (PySem.W.typeIn K (.ref C) = some (.type "type"))))
theorem xrB_ok {K : PySem.W.Frag} {C : Addr} (h : xrB K C = true) : XrK K C := by
  obtain ⟨h1, h⟩ := Bool.and_eq_true_iff.mp h
  obtain ⟨h2, h⟩ := Bool.and_eq_true_iff.mp h
  obtain ⟨h3, h4⟩ := Bool.and_eq_true_iff.mp h
  exact ⟨h1, h2, of_decide_eq_true h3, of_decide_eq_true h4⟩
structure XcK (K : PySem.W.Frag) (C : Addr) (i : Nat) : Prop where
  c : ExcC K C
  l : ∀ (j : Nat) x, errL[j]? = some x → PySem.W.kitOne K (.ref C) (.ref (He.ga K x)) = some (decide (j = i))
  v : PySem.W.kitOne K (.ref C) (.type "ValueError") = some true
  h : PySem.W.exmOne K (.ref C) (.ref (He.ga K "HallError")) = some true
def excCB (K : PySem.W.Frag) (D : Addr) : Bool := decide (PySem.W.findIn K (.ref D) "__getattribute__" = some (some (.builtin "BaseException.__getattribute__"))) && (decide (PySem.W.findIn K (.ref D) "__getattr__" = some none) && (decide (PySem.W.subIn K (.ref D) (.type "BaseException") = some true) && (PySem.W.hasDictIn K D &&
  (decide (PySem.W.findIn K (.ref D) "__class__" = some (some (.builtin "object.__class__"))) && (decide (PySem.W.specialIn K (.builtin "object.__class__") "__get__" = some (some (.builtin "getset_descriptor.__get__"))) && (decide (PySem.W.takesIn K (.builtin "object.__class__") = some true) && decide (PySem.W.mroIn K D (.type "object") = some true)))))))
theorem excCB_ok {K : PySem.W.Frag} {D : Addr} (h : excCB K D = true) : ExcC K D := by
  obtain ⟨h1, h⟩ := Bool.and_eq_true_iff.mp h
  obtain ⟨h2, h⟩ := Bool.and_eq_true_iff.mp h
  obtain ⟨h3, h⟩ := Bool.and_eq_true_iff.mp h
  obtain ⟨h4, h⟩ := Bool.and_eq_true_iff.mp h
  obtain ⟨h5, h⟩ := Bool.and_eq_true_iff.mp h
  obtain ⟨h6, h⟩ := Bool.and_eq_true_iff.mp h
  obtain ⟨h7, h8⟩ := Bool.and_eq_true_iff.mp h
  exact ⟨of_decide_eq_true h1, of_decide_eq_true h2, of_decide_eq_true h3, h4, of_decide_eq_true h5, of_decide_eq_true h6, of_decide_eq_true h7, of_decide_eq_true h8⟩
def xcB (K : PySem.W.Frag) (C : Addr) (i : Nat) : Bool := excCB K C && ((List.range 12).all (fun j => decide (PySem.W.kitOne K (.ref C) (.ref (He.ga K (errL.getD j ""))) = some (decide (j = i)))) && (decide (PySem.W.kitOne K (.ref C) (.type "ValueError") = some true) && decide (PySem.W.exmOne K (.ref C) (.ref (He.ga K "HallError")) = some true)))
theorem xcB_ok {K : PySem.W.Frag} {C : Addr} {i : Nat} (h : xcB K C i = true) : XcK K C i := by
  obtain ⟨h1, h⟩ := Bool.and_eq_true_iff.mp h
  obtain ⟨h2, h⟩ := Bool.and_eq_true_iff.mp h
  obtain ⟨h3, h4⟩ := Bool.and_eq_true_iff.mp h
  refine ⟨excCB_ok h1, fun j x hj => ?_, of_decide_eq_true h3, of_decide_eq_true h4⟩
  have hl : j < 12 := (List.getElem?_eq_some_iff.mp hj).1
  have z := of_decide_eq_true (List.all_eq_true.mp h2 j (List.mem_range.mpr hl))
  rw [List.getD_eq_getElem?_getD, hj] at z
  exact z
section
variable {X : Cx} {W : WX} {C : Addr} {x m : Str} {j : Nat} {p p2 pos pos2 : Pos}
def tRaise (C : Addr) (W : WX) : TS := fun _ σ H => W (.ref C) none σ H
theorem d_raise (T : XrK X.K C) (g : X.mg x = some (.ref C)) (tk : Takes X W) (hc : X.calm = true := by rfl) (hg : Gl X x := by rfl) (hdb : (x == ("__debug__" : Str)) = false := by decide) :
    PS X (.Raise (some (.Call (.Name x p) [.Constant (.str m) j p2] [] pos)) none pos2) (tRaise C W) :=
  ps_raise hc tk (pmk_own PySem.F.excBase_ValueError T.x g T.k (raises_own T.b T.t) hg hdb)
instance {D : Ends} {σ : Sl} {H : Hp} : Step (tRaise C W D σ H) (W (.ref C) none σ H) := ⟨id⟩
/-- isinstance of what was caught -/
def rIsEx (K : PySem.W.Frag) (a : Addr) (cls : Value) (d : Option Addr) : List V → Hp → VK → Prop := fun xs H Q => ∃ (D : Addr) (c : V) (cv : Value) (b : Bool), cls = .ref D ∧ d = none ∧ ExcC K D ∧ xs = [.ref a, c] ∧ (∀ u, RelV c u → u = cv) ∧ PySem.W.kitOne K (.ref D) cv = some b ∧ Q (.bl b) H
theorem call_isEx {K : PySem.W.Frag} {a : Addr} {oe : Obj} {cls : Value} {d : Option Addr} {pn : List (Addr × Obj)} (hz : Zc cls d oe) (hf : ∃ vs, oe.data = .fields vs) (hK : X.K = K) : CallR (X.suite a ((a, oe) :: pn)) (.builtin "isinstance") (rIsEx K a cls d) := by
  subst hK
  intro pins s σ H xs us Q I r h
  obtain ⟨D, c, cv, b, rfl, rfl, T, h1, h2, h3, h4⟩ := h
  exact call_isE T hz hf pins s σ H xs us Q I r ⟨c, cv, b, h1, h2, h3, h4⟩
theorem x_isE {K : PySem.W.Frag} {a : Addr} {i : Nat} {H : Hp} {Q : VK} (T : XcK K C i) (hj : errL[j]? = some x) (q : Q (.bl (decide (j = i))) H) : rIsEx K a (.ref C) none [.ref a, .ref (He.ga K x)] H Q :=
  ⟨C, _, .ref (He.ga K x), _, rfl, rfl, T.c, rfl, (fun u hu => by cases hu; rfl), T.l j x hj, q⟩
theorem x_isV {K : PySem.W.Frag} {a : Addr} {i : Nat} {H : Hp} {Q : VK} (T : XcK K C i) (q : Q (.bl true) H) : rIsEx K a (.ref C) none [.ref a, .ty "ValueError"] H Q :=
  ⟨C, _, .type "ValueError", _, rfl, rfl, T.c, rfl, (fun u hu => by cases hu; rfl), T.v, q⟩
theorem x_cntF {K : PySem.W.Frag} {H : Hp} {Q : VK} {q : Addr} {ys : List V} {y : V} (h : SqL K H q ys) (f : flatV y = true) (g : ys.all flatV = true) (k : Q (.int (ys.countP fun z => eqV z y : Nat)) H) : rCntF K (.ref q) [y] H Q := ⟨q, ys, y, rfl, rfl, h, f, g, k⟩
theorem x_index {K : PySem.W.Frag} {H : Hp} {Q : VK} {q : Addr} {ys : List V} {y z : V} {n : Nat} (h : SqL K H q ys) (f : flatV y = true) (g : ys.all flatV = true) (e : ys[n]? = some z) (e2 : eqV z y = true) (e3 : ∀ (m : Nat) (z' : V), m < n → ys[m]? = some z' → eqV z' y = false) (k : Q (.int (n : Nat)) H) : rIndex K (.ref q) [y] H Q :=
  ⟨q, ys, y, n, z, rfl, rfl, h, f, g, e, e2, e3, k⟩
end
end TW
namespace TW
open PySem PySem.Spec PyProof.Rows L2
def tTryAs (K : PySem.W.Frag) (c : Value) (i : Nat) (tb : WX → TS) (ts : Addr → Value → Option Addr → TS) : TS := fun D σ H => tb (wAs K c i ts (fun _ _ _ _ => False) D) D σ H
theorem d_tryAs (K : PySem.W.Frag) {X : Cx} {x n : Str} {c : Value} {i : Nat} {body suite : List Stmt} {b₀ : Stmt} {np pos pos' : Pos} {tb : WX → TS} {ts : Addr → Value → Option Addr → TS} (hN : X.N.Nodup) (hi : X.N[i]? = some n) (hc : X.mg x = some c)
    (hb : ∀ (W : WX) (pn : List (Addr × Obj)) (xe : Value → Shared → Prop), Takes (X.tr pn xe) W → PassesOwn (model X.prog X.w) X.A X.env xe → PSs (X.tr pn xe) body (tb W))
    (hsu : ∀ (a : Addr) (oe : Obj) (cls : Value) (d : Option Addr) (pn : List (Addr × Obj)), Zc cls d oe → (∃ vs, oe.data = .fields vs) → PSs (X.suite a ((a, oe) :: pn)) (b₀ :: suite) (ts a cls d))
    (hs : X.stack = X.env :: X.outer := by rfl) (hf : X.env.frame = some X.env.locals := by rfl) (hln : X.env.kindOf n = some .local := by rfl) (hg : Gl X x := by rfl) (hd : (x == ("__debug__" : Str)) = false := by decide) (hK : X.K = K := by rfl) :
    PS X (.Try body [.ExceptHandler (some (.Name x np)) (some n) (b₀ :: suite) pos'] [] [] pos) (tTryAs K c i tb ts) := by
  subst hK
  exact ps_try_as hs hf hN hi hln ⟨hg, hd, .inl hc⟩ takes0 hb hsu
theorem r_tryAs {K : PySem.W.Frag} {c : Value} {i : Nat} {tb : WX → TS} {ts : Addr → Value → Option Addr → TS} {D : Ends} {σ : Sl} {H : Hp} (h : tb (wAs K c i ts (fun _ _ _ _ => False) D) D σ H) : tTryAs K c i tb ts D σ H := h
/-! ### promises of what raises -/
theorem bt_ValueError : bootBuiltins "ValueError" = some (.type "ValueError") := by decide +kernel
def spDigitsX (K : PySem.W.Frag) : Sp := fun vs H Q E => ∃ (F : List MP) (L : List (Addr × HO)) (x : Addr) (d : HD) (n : Int), vs = [.ref x, .int n] ∧ d.ok ∧ hallP K x d ∈ F ∧ S F L H ∧
  (0 ≤ n → n < d.m → ∀ H', S F L H' → Q .non H') ∧ (¬ (0 ≤ n ∧ n < d.m) → ∀ H', S F L H' → E (.ref (He.ga K "InvalidDigits")) none H')
def spSeeX (K : PySem.W.Frag) : Sp := fun vs H Q E => ∃ (F : List MP) (L : List (Addr × HO)) (wx dx x ls lf : Addr) (d : HD) (v : V) (st : List Int) (fs : List V), vs = [.ref wx, v] ∧ d.ok ∧ hallP K x d ∈ F ∧ NI v ∧
  (∀ s ∈ st, 0 ≤ s ∧ s ≤ 5000) ∧ st.length ≤ 5000 ∧ fs.length ≤ 1000 ∧ cel wx (.ins (wC K) dx (wfs x ls lf)) ∈ F ∧ liF K ls (st.map V.int) ∈ F ∧ liF K lf fs ∈ F ∧ S F L H ∧
  ((∃ n, v = .int n ∧ ¬ (0 ≤ n ∧ n < d.m) ∧ ∀ H', S F L H' → E (.ref (He.ga K "InvalidDigits")) none H') ∨
    (∀ n, v = .int n → 0 ≤ n ∧ n < d.m) ∧ flS d st fs.length v = [] ∧ ∀ H', S F L H' → E (.ref (He.ga K "Contradiction")) none H')
/-- what the laws' own asking for an error answers: the closure raises an error without fields -/
def errT : List Str := ["tick", "number", "digits", "many", "limit", "contradiction", "name", "unknown"]
def spErO (P : Program) (w : World) (K : PySem.W.Frag) (mg : Str → Option Value) (base : Heap) : Sp := fun vs H Q _ => ∃ (f : Addr) (o : Obj) (F : List MP) (L : List (Addr × HO)) (sp : Sp) (C : Addr) (i : Nat) (tag : Str), vs = [.ref f] ∧ H f = some (ExO f o) ∧ CloOk P w K mg base (L2.CX P w) 6 f o 0 sp ∧
  XcK K C i ∧ (i = 2 ∨ i = 5) ∧ errT[i]? = some tag ∧ S F L H ∧ (∀ Q' E', (∀ H', S F L H' → E' (.ref C) none H') → sp [] H Q' E') ∧ ∀ q H', S (cel q (.tup [.str tag, .int 0]) :: F) L H' → Q (.ref q) H'
section
variable {P : Program} {w : World} {K : PySem.W.Frag} {mg : Str → Option Value} {base : Heap} {H : Hp} {Q : VK} {E : XK} {F : List MP} {L : List (Addr × HO)} {x : Addr} {d : HD} {n : Int} {v : V}
theorem c_digitsX (s : S F L H) (m : hallP K x d ∈ F) (ok : d.ok) (k1 : 0 ≤ n → n < d.m → ∀ H', S F L H' → Q .non H') (k2 : ¬ (0 ≤ n ∧ n < d.m) → ∀ H', S F L H' → E (.ref (He.ga K "InvalidDigits")) none H') : spDigitsX K [.ref x, .int n] H Q E := ⟨F, L, x, d, n, rfl, ok, m, s, k1, k2⟩
theorem x_cloS {k i : Nat} {W : WX} {σ : Sl} {f : Addr} {o : Obj} {sp : Sp} (hs : σ[i]? = some (some (.ref f))) (hf : H f = some (ExO f o)) (C : CloOk P w K mg base (L2.CX P w) k f o 0 sp) (h : sp [] H Q (WE W σ)) : tCloS P w K mg base k i W σ H Q := ⟨f, o, sp, hs, hf, C, h⟩
theorem x_inFl {q : Addr} {xs : List V} {y : V} {b : Bool} (h : SqL K H q xs) (f : flatV y = true) (g : xs.all flatV = true) (e : inV y xs = b) (k : Q (.bl b) H) : rInA K y (.ref q) H Q := ⟨q, xs, rfl, .inl h, f, g, by rw [e]; exact k⟩
end
end TW
namespace TW
open PySem PySem.Spec PyProof.Rows L2
/-! ### what can be shown next -/
def intsV : List V → List Int
  | [] => []
  | .int i :: r => i :: intsV r
  | _ :: r => intsV r
theorem intsV_app : ∀ {vs ws : List V}, intsV (vs ++ ws) = intsV vs ++ intsV ws
  | [], _ => rfl
  | .int i :: r, ws => congrArg (i :: ·) (intsV_app (vs := r))
  | .non :: r, ws => intsV_app (vs := r)
  | .bl _ :: r, ws => intsV_app (vs := r)
  | .str _ :: r, ws => intsV_app (vs := r)
  | .ref _ :: r, ws => intsV_app (vs := r)
  | .ty _ :: r, ws => intsV_app (vs := r)
  | .flt _ :: r, ws => intsV_app (vs := r)
  | .byt _ :: r, ws => intsV_app (vs := r)
theorem intsV_no {vs : List V} {i : Nat} (h : vs[i]? = some .non) : intsV (vs.take (i + 1)) = intsV (vs.take i) := by
  rw [List.take_add_one, h, intsV_app]
  exact List.append_nil _
theorem intsV_yes {vs : List V} {i : Nat} {k : Int} (h : vs[i]? = some (.int k)) : (intsV (vs.take (i + 1))).map V.int = (intsV (vs.take i)).map V.int ++ [V.int k] := by
  rw [List.take_add_one, h, intsV_app, List.map_append]
  rfl
theorem intsV_len : ∀ vs : List V, (intsV vs).length ≤ vs.length
  | [] => Nat.le_refl _
  | .int i :: r => Nat.succ_le_succ (intsV_len r)
  | .non :: r => Nat.le_succ_of_le (intsV_len r)
  | .bl _ :: r => Nat.le_succ_of_le (intsV_len r)
  | .str _ :: r => Nat.le_succ_of_le (intsV_len r)
  | .ref _ :: r => Nat.le_succ_of_le (intsV_len r)
  | .ty _ :: r => Nat.le_succ_of_le (intsV_len r)
  | .flt _ :: r => Nat.le_succ_of_le (intsV_len r)
  | .byt _ :: r => Nat.le_succ_of_le (intsV_len r)
def nxP (vs : List V) : List V := if inV .non vs = true then [V.non] else []
theorem nxP_t {vs : List V} (h : inV .non vs = true) : nxP vs = [V.non] := if_pos h
theorem nxP_f {vs : List V} (h : inV .non vs = false) : nxP vs = [] := if_neg (by rw [h]; exact Bool.false_ne_true)
/-- the displays from some starts -/
abbrev shF (d : HD) (st : List Int) (k : Int) : List V := st.map fun s => Shown d (s + k)
theorem shF_flat {d : HD} {st : List Int} {k : Int} : (shF d st k).all flatV = true := by
  rw [List.all_eq_true]
  intro v hv
  obtain ⟨s, _, rfl⟩ := List.mem_map.mp hv
  rcases ni_shown (d := d) (t := s + k) with e | ⟨i, e⟩ <;> rw [e] <;> rfl
theorem shF_ni {d : HD} {st : List Int} {k : Int} {i : Nat} {v : V} (h : (shF d st k)[i]? = some v) : NI v := by
  obtain ⟨s, _, rfl⟩ := List.mem_map.mp (List.mem_of_getElem? h)
  exact ni_shown
def spNext (K : PySem.W.Frag) : Sp := fun vs H Q _ => ∃ (F : List MP) (L : List (Addr × HO)) (wx dx x ls lf : Addr) (d : HD) (st : List Int) (fs : List V), vs = [.ref wx] ∧ d.ok ∧ hallP K x d ∈ F ∧
  st.length ≤ 100 ∧ fs.length ≤ 1000 ∧ wCell K wx dx x ls lf ∈ L ∧ (ls, .lst (st.map V.int)) ∈ L ∧ (lf, .lst fs) ∈ L ∧ S F L H ∧
  ∀ zs l H', Asc zs → (∀ k, k ∈ zs ↔ k ∈ intsV (shF d st fs.length)) → zs.length ≤ 5000 → S F ((l, .lst (nxP (shF d st fs.length) ++ zs.map V.int)) :: L) H' → Q (.ref l) H'
section
variable {K : PySem.W.Frag} {H : Hp} {Q : VK} {E : XK} {F : List MP} {L : List (Addr × HO)} {wx dx x ls lf p q : Addr} {d : HD} {st : List Int} {fs vs : List V}
theorem c_next (s : S F L H) (m1 : wCell K wx dx x ls lf ∈ L) (m2 : (ls, .lst (st.map V.int)) ∈ L) (m3 : (lf, .lst fs) ∈ L) (m : hallP K x d ∈ F) (ok : d.ok) (h2 : st.length ≤ 100) (h3 : fs.length ≤ 1000)
    (k : ∀ zs l H', Asc zs → (∀ k, k ∈ zs ↔ k ∈ intsV (shF d st fs.length)) → zs.length ≤ 5000 → S F ((l, .lst (nxP (shF d st fs.length) ++ zs.map V.int)) :: L) H' → Q (.ref l) H') : spNext K [.ref wx] H Q E :=
  ⟨F, L, wx, dx, x, ls, lf, d, st, fs, rfl, ok, m, h2, h3, m1, m2, m3, s, k⟩
theorem dpa_ni : ∀ {vs : List V}, (∀ v ∈ vs, NI v) → DpAll K H vs (vs.map niD)
  | [], _ => .nil
  | v :: r, h => .cons (dp_ni (h v List.mem_cons_self)) (dpa_ni fun u hu => h u (List.mem_cons_of_mem _ hu))
theorem eqva_ni : ∀ {vs : List V}, (∀ v ∈ vs, NI v) → PyData.eqvAll (vs.map niD) (vs.map niD) = true
  | [], _ => rfl
  | v :: r, h => by
    simp only [List.map_cons, PyData.eqvAll, eqv_ni (h v List.mem_cons_self), eqva_ni (vs := r) fun u hu => h u (List.mem_cons_of_mem _ hu), Bool.and_true]
theorem can_ni : ∀ {vs : List V}, (∀ v ∈ vs, NI v) → PyData.canLayAll0 (vs.map niD) = true ∧ PyData.depthAll (vs.map niD) = 0
  | [], _ => ⟨rfl, rfl⟩
  | v :: r, h => by
    obtain ⟨a, b⟩ := can_ni (vs := r) fun u hu => h u (List.mem_cons_of_mem _ hu)
    rcases h v List.mem_cons_self with rfl | ⟨i, rfl⟩
    · refine ⟨?_, ?_⟩
      · simp only [List.map_cons, niD, PyData.canLayAll0, PyData.canLay0, a]; rfl
      · simp only [List.map_cons, niD, PyData.depthAll, PyData.depth, b]; rfl
    · refine ⟨?_, ?_⟩
      · simp only [List.map_cons, niD, PyData.canLayAll0, PyData.canLay0, a]; rfl
      · simp only [List.map_cons, niD, PyData.depthAll, PyData.depth, b]; rfl
theorem sh_ni {vs : List V} (h : ∀ v ∈ vs, NI v) : SeqAt.shaped (.list (vs.map niD)) = true := by
  obtain ⟨a, b⟩ := can_ni h
  simp [SeqAt.shaped, PyData.canLay0, PyData.depth, a, b]
theorem x_neLn (h1 : SqL K H p vs) (h2 : SqL K H q vs) (hn : ∀ v ∈ vs, NI v) (k : Q (.bl false) H) : rNeA K (.ref p) (.ref q) H Q := by
  refine .inr ⟨_, _, .lst h1 (dpa_ni hn), .lst h2 (dpa_ni hn), sh_ni hn, sh_ni hn, ?_⟩
  have e : PyData.eqv (.list (vs.map niD)) (.list (vs.map niD)) = true := by
    simp only [PyData.eqv, eqva_ni hn]
  rw [e]; exact k
theorem nx_ni {us : List V} {zs : List Int} : ∀ v ∈ nxP us ++ zs.map V.int, NI v := fun v hv => by
  rcases List.mem_append.mp hv with hv | hv
  · unfold nxP at hv
    split at hv
    · rw [List.mem_singleton.mp hv]; exact .inl rfl
    · cases hv
  · obtain ⟨i, _, rfl⟩ := List.mem_map.mp hv
    exact .inr ⟨i, rfl⟩
end
end TW
namespace TW
open PySem PySem.Spec PyProof.Rows L2 LamX
/-! ### closures that raise -/
theorem inj_list : ∀ {cells : List (Str × Addr)}, (cells.map (·.2)).Nodup → ∀ x y c, cells.lookup x = some c → cells.lookup y = some c → x = y := by
  intro cells nd x y c h1 h2
  have a := PySem.mem_of_lookup h1
  have b := PySem.mem_of_lookup h2
  induction cells with
  | nil => cases a
  | cons p r ih =>
    rw [List.map_cons, List.nodup_cons] at nd
    rcases List.mem_cons.mp a with a | a <;> rcases List.mem_cons.mp b with b | b
    · rw [← a] at b
      exact (Prod.mk.inj b).1.symm
    · exact absurd (List.mem_map.mpr ⟨_, b, by rw [← a]⟩) nd.1
    · exact absurd (List.mem_map.mpr ⟨_, a, by rw [← b]⟩) nd.1
    · have e : ∀ z, (z, c) ∈ r → r.lookup z = some c ∨ True := fun _ _ => .inr trivial
      have key : ∀ (l : List (Str × Addr)), (l.map (·.2)).Nodup → (x, c) ∈ l → (y, c) ∈ l → x = y := by
        intro l nl
        induction l with
        | nil => intro z; cases z
        | cons q s ih2 =>
          intro z1 z2
          rw [List.map_cons, List.nodup_cons] at nl
          rcases List.mem_cons.mp z1 with z1 | z1 <;> rcases List.mem_cons.mp z2 with z2 | z2
          · rw [← z1] at z2
            exact (Prod.mk.inj z2).1.symm
          · exact absurd (List.mem_map.mpr ⟨_, z2, by rw [← z1]⟩) nl.1
          · exact absurd (List.mem_map.mpr ⟨_, z1, by rw [← z2]⟩) nl.1
          · exact ih2 nl.2 z1 z2
      exact key r nd.2 a b
section
variable {P : Program} {w : World} {K : PySem.W.Frag} {mg : Str → Option Value} {base : Heap}
variable {F F' : List MP} {L L' : List (Addr × HO)} {H H1 H2 : Hp} {cs : List (Addr × Obj)} {Q : VK} {E : XK} {q : Str} {T c f x C : Addr} {o : Obj} {i : Nat} {tag : Str}
theorem S.addC {p : Addr} {u : HO} (s : S F L H) (h : H p = some u) (hL : p ∉ L.map (·.1)) : S (cel p u :: F) L H := by
  obtain ⟨E, h1, h2, h3⟩ := s.ex
  refine ⟨⟨upd E p u, fun a v e => ?_, fun g hg => ?_, fun r hr => ?_⟩, s.cell, s.nd⟩
  · by_cases e1 : a = p
    · subst e1
      rw [upd_same] at e
      rw [← e]; exact h
    · rw [upd_ne e1] at e
      exact h1 a v e
  · rcases List.mem_cons.mp hg with rfl | hg
    · exact upd_same
    · refine g.2 E _ (fun a v e => ?_) (h2 g hg)
      by_cases e1 : a = p
      · subst e1
        rw [upd_same, ← h]
        exact h1 _ _ e
      · rw [upd_ne e1]; exact e
  · have ne : r.1 ≠ p := fun e => hL (List.mem_map.mpr ⟨r, hr, e⟩)
    rw [upd_ne ne]
    exact h3 r hr
/-- a closure's promise used, where it raises: the maker's facts are there, and nothing is changed -/
theorem spClo_ofX {cl : List (Str × Addr)} {fs : List Str} {tb : XK → TE} {ws : List V} (hS : S F L H1) (hc : cel c (CodeO c q) ∈ F) (n1 : ∀ p ∈ cs, H1 p.1 = none) (nd : (cs.map (·.1)).Nodup) (lw : ws.length = fs.length)
    (hcap : ∀ (i : Nat) y, fs[i]? = some y → ∃ p ∈ cs, ∃ w u, cl.lookup y = some p.1 ∧ ws[i]? = some w ∧ RelV w u ∧ p.2.data = .cell (some u))
    (htb : ∀ (H0 : Hp) (Q' : VK) (E' : XK), S (allP H0 :: F) [] H0 → Same H1 H0 → (∀ H2, Same H0 H2 → E' (.ref C) none H2) → tb E' (ws.map some) H0 Q') (hE : ∀ H', Same (adds H1 cs) H' → E (.ref C) none H') : spClo q c cl fs tb 0 [] (adds H1 cs) Q E := by
  have hm : Same (adds H1 cs) (adds H1 cs) := Same.refl _
  have c1 : H1 c = some (CodeO c q) := hS.phi hc
  have hx : ∀ p ∈ cs, (adds H1 cs) p.1 = some (ExO p.1 p.2) := fun p hp => adds_in nd p hp
  refine ⟨rfl, ws, cs, same_adds n1 _ _ c1, fun z => ?_, hx, lw, hcap, ?_⟩
  · obtain ⟨p, hp, e⟩ := List.mem_map.mp z
    have := n1 p hp
    rw [e, c1] at this
    cases this
  · have s0 : S F L (subs (adds H1 cs) cs) := hS.same (same_drop n1 hm)
    have s1 : S (allP (subs (adds H1 cs) cs) :: F) [] (subs (adds H1 cs) cs) := ⟨⟨_, Same.refl _, fun g hg => by
      rcases List.mem_cons.mp hg with rfl | hg
      · exact Same.refl _
      · exact s0.phi hg, fun p hp => (nomatch hp)⟩, fun p hp => (nomatch hp), List.nodup_nil⟩
    exact htb _ _ _ s1 (same_drop n1 hm) fun H2 s2 hn => hE _ (same_back hx s2)
theorem c_errO (hS : S (cel f (ExO f o) :: F) L H1) (n1 : ∀ p ∈ cs, H1 p.1 = none) (nd : (cs.map (·.1)).Nodup) (X : XcK K C i) (hi : i = 2 ∨ i = 5) (ht : errT[i]? = some tag) (hL : ∀ p ∈ L, ∀ xs, p.2 ≠ .tup xs)
    (Cl : ∃ sp, CloOk P w K mg base (L2.CX P w) 6 f o 0 sp ∧ ∀ (Q' : VK) (E' : XK), (∀ H', Same (adds H1 cs) H' → E' (.ref C) none H') → sp [] (adds H1 cs) Q' E')
    (k : ∀ q H', S (cel q (.tup [.str tag, .int 0]) :: cel f (ExO f o) :: F) L H' → Q (.ref q) H') :
    spErO P w K mg base [.ref f] (adds H1 cs) (fun v H2 => (∀ p ∈ cs, H2 p.1 = some (ExO p.1 p.2)) ∧ Q v (subs H2 cs)) E := by
  obtain ⟨sp, Cl, hsp⟩ := Cl
  have s0 : S [cel f (ExO f o), allP (adds H1 cs)] [] (adds H1 cs) := (s_all _).put_ (cel f (ExO f o)) (fun E e => (cel f (ExO f o)).2 H1 E ((same_adds n1).trans (e _ List.mem_cons_self)) (hS.phi List.mem_cons_self))
  refine ⟨f, o, _, _, sp, C, i, tag, rfl, s0.phi List.mem_cons_self, Cl, X, hi, ht, s0, fun Q' E' h => hsp Q' E' fun H' hs => h H' (s0.same hs), fun q H2 hS2 => ?_⟩
  have sm : Same (adds H1 cs) H2 := hS2.phi (f := allP (adds H1 cs)) (by simp)
  have hq : H2 q = some (.tup [.str tag, .int 0]) := hS2.phi (f := cel q (.tup [.str tag, .int 0])) (by simp)
  have hS3 := hS.same (same_drop n1 sm)
  have hc : q ∉ cs.map (·.1) := fun z => by
    obtain ⟨p, hp, e⟩ := List.mem_map.mp z
    have := sm _ _ (adds_in nd p hp)
    rw [e, hq] at this
    unfold ExO at this
    cases this
  have hq2 : subs H2 cs q = some (.tup [.str tag, .int 0]) := by rw [subs_ne hc]; exact hq
  refine ⟨fun p hp => sm _ _ (adds_in nd p hp), k q _ (hS3.addC hq2 fun z => ?_)⟩
  obtain ⟨p, hp, e⟩ := List.mem_map.mp z
  have := hS3.at_ (a := p.1) (o := p.2) hp
  rw [e, hq2] at this
  exact hL p hp _ (Option.some.inj this).symm
/-- what a lambda may let out -/
theorem takesL {N : List Str} {q : Str} {scope : Scope} {cl : List (Str × Addr)} {A : Around} {outer : List Env} {s : Shared} : Takes (lamCx (L2.CX P w) P w K mg base N q scope f c cl A outer s H E) (fun cls d _ H' => E cls d H') := takes_of rfl rfl rfl rfl
theorem x_niFl {q : Addr} {xs : List V} {y : V} {b : Bool} (h : SqL K H q xs) (f : flatV y = true) (g : xs.all flatV = true) (e : inV y xs = b) (k : Q (.bl (!b)) H) : rNiA K y (.ref q) H Q := ⟨q, xs, rfl, .inl h, f, g, by rw [e]; exact k⟩
theorem flat_ints : ∀ {xs : List Int}, (xs.map V.int).all flatV = true
  | [] => rfl
  | x :: r => by rw [List.map_cons, List.all_cons, flat_ints (xs := r)]; rfl
theorem inV_int {y : Int} {xs : List Int} (h : y ∈ xs) : inV (.int y) (xs.map V.int) = true :=
  List.any_eq_true.mpr ⟨.int y, List.mem_map.mpr ⟨y, h, rfl⟩, beq_self_eq_true y⟩
theorem fcF_ni {d : HD} {tr : Int} {n : Nat} : ∀ v ∈ fcF d tr n, NI v := fun v hv => by
  obtain ⟨j, _, rfl⟩ := List.mem_map.mp hv
  exact ni_shown
theorem x_methC {m : Str} {fl : List (Str × V)} {dx : Addr} {sp : Sp} {t : TA} {σ : Sl} (s : S F L H) (h : cel x (.ins C dx fl) ∈ F) (hl : fl.lookup m = none) (q : t σ H fun vs H2 => sp (.ref x :: vs) H2 Q E) : rMeth C m sp E t σ (.ref x) H Q := ⟨x, dx, fl, rfl, s.phi h, hl, q⟩
theorem eqv_err {tag : Str} : PyData.eqv (.tuple [.str tag, .int 0]) (.tuple [.str tag, .int 0]) = true := by
  simp [PyData.eqv, PyData.eqvAll]
theorem sh_err {tag : Str} (hs : PyData.strOk tag = true) : SeqAt.shaped (.tuple [.str tag, .int 0]) = true := by
  simp [SeqAt.shaped, PyData.canLay0, PyData.canLayAll0, PyData.depth, PyData.depthAll, hs]
theorem x_eqErr {q r : Addr} (h1 : SqT K H q [.str tag, .int 0]) (h2 : SqT K H r [.str tag, .int 0]) (k : Q (.bl true) H) (hs : PyData.strOk tag = true := by decide +kernel) : rEqA K (.ref q) (.ref r) H Q :=
  .inr ⟨_, _, .tup h1 (.cons (.str tag) (.cons (.int 0) .nil)), .tup h2 (.cons (.str tag) (.cons (.int 0) .nil)), sh_err hs, sh_err hs, by rw [eqv_err]; exact k⟩
theorem x_neErr {q r : Addr} (h1 : SqT K H q [.str tag, .int 0]) (h2 : SqT K H r [.str tag, .int 0]) (k : Q (.bl false) H) (hs : PyData.strOk tag = true := by decide +kernel) : rNeA K (.ref q) (.ref r) H Q :=
  .inr ⟨_, _, .tup h1 (.cons (.str tag) (.cons (.int 0) .nil)), .tup h2 (.cons (.str tag) (.cons (.int 0) .nil)), sh_err hs, sh_err hs, by rw [eqv_err]; exact k⟩
theorem c_seeX {wx dx x ls lf : Addr} {d : HD} {v : V} {st : List Int} {fs : List V} (s : S F L H) (m : hallP K x d ∈ F) (m1 : cel wx (.ins (wC K) dx (wfs x ls lf)) ∈ F) (m2 : liF K ls (st.map V.int) ∈ F) (m3 : liF K lf fs ∈ F) (ok : d.ok) (hv : NI v) (h1 : ∀ s ∈ st, 0 ≤ s ∧ s ≤ 5000) (h2 : st.length ≤ 5000) (h3 : fs.length ≤ 1000)
    (k : (∃ n, v = .int n ∧ ¬ (0 ≤ n ∧ n < d.m) ∧ ∀ H', S F L H' → E (.ref (He.ga K "InvalidDigits")) none H') ∨
    (∀ n, v = .int n → 0 ≤ n ∧ n < d.m) ∧ flS d st fs.length v = [] ∧ ∀ H', S F L H' → E (.ref (He.ga K "Contradiction")) none H') : spSeeX K [.ref wx, v] H Q E :=
  ⟨F, L, wx, dx, x, ls, lf, d, v, st, fs, rfl, ok, m, hv, h1, h2, h3, m1, m2, m3, s, k⟩
theorem inV_mem {y : Int} {xs : List Int} (h : inV (.int y) (xs.map V.int) = true) : y ∈ xs := by
  obtain ⟨v, hv, e⟩ := List.any_eq_true.mp h
  obtain ⟨z, hz, rfl⟩ := List.mem_map.mp hv
  have : z = y := beq_iff_eq.mp e
  rw [← this]; exact hz
theorem getD_mem {xs : List Int} {n : Nat} (h : n < xs.length) : xs.getD n 0 ∈ xs := by
  rw [List.getD_eq_getElem?_getD, List.getElem?_eq_getElem h]
  exact List.getElem_mem h
theorem fa2_ni {n : Nat} : ∀ {vs : List V}, (∀ v ∈ vs, NI v) → Fa2 (Eq2 K H n) vs vs
  | [], _ => .nil
  | v :: r, h => .cons (eq2_ni (h v List.mem_cons_self)) (fa2_ni fun u hu => h u (List.mem_cons_of_mem _ hu))
end
end TW
/-! zip of a tuple and a list that is no shorter -/
namespace TW
open PySem PySem.Spec PyProof.Rows L2 RZ
section
variable {prog : Program} {w : World} {A : Around} {E : Value → Shared → Prop} {s : Shared} {z TI TO i1 i2 l1 l2 : Addr} {k : Nat} {xs ys : Array Value} {x y a b : Value}
/-- all but the zip's own objects is kept -/
def Zkeep (z TO i1 i2 : Addr) (h h' : Heap) : Prop := ∀ c o, c ≠ z → c ≠ TO → c ≠ i1 → c ≠ i2 → h.get? c = some o → h'.get? c = some o
theorem zm_item {Q : Value → Shared → Prop} (D : ZipApart z TI TO i1 i2 l1 l2) (hz : IsZip s.heap z TI TO .none) (hTI : IsPair s.heap TI (.ref i1) (.ref i2)) (hTO : IsPair s.heap TO a b)
    (t1 : s.heap.IsTupleIter i1 l1 k) (t2 : s.heap.IsListIter i2 l2 k) (m1 : s.heap.IsTuple l1 xs) (m2 : s.heap.IsList l2 ys) (hx : xs[k]? = some x) (hy : ys[k]? = some y)
    (q : ∀ h', IsZip h' z TI TO (rawInt s.heap.objs.size) → IsPair h' TO x y → h'.IsTupleIter i1 l1 (k + 1) → h'.IsListIter i2 l2 (k + 1) → IsPair h' s.heap.objs.size x y → h'.objs.size = s.heap.objs.size + 1 → Zkeep z TO i1 i2 s.heap h' → Q (.ref s.heap.objs.size) { s with heap := h' }) :
    wpAny (model prog w) A (Builtin.«zip.__next__» ⟨[.ref z], []⟩) (fun fin s' => ∃ v, fin = .done (.ret v) ∧ Q v s') E s := by
  show wpAny _ _ (field (.ref z) 2 >>= _) _ _ _
  refine wpAny_bind (wpAny_field hz rfl (x := .bool false) rfl ?_)
  show wpAny _ _ (field (.ref z) 3 >>= _) _ _ _
  refine wpAny_bind (wpAny_field hz rfl (x := .ref TI) rfl (wpAny_bind (wpAny_seqItems hTI rfl ?_)))
  show wpAny _ _ (Builtin.SmallTypes.ownedTupleIsFree (.ref z) >>= _) _ _ _
  unfold Builtin.SmallTypes.ownedTupleIsFree
  refine wpAny_bind (wpAny_bind (wpAny_field hz rfl (x := .none) rfl (wpAny_pure ?_)))
  simp only [if_true]
  refine wpAny_bind (wpAny_rule (wpAny_bind (wpAny_field hz rfl (x := .ref TO) rfl (wpAny_bind (wpAny_setField_rec hz (by simp) fun g1 z1 (s1 : Heap.SameBut _ _ _) => ?_)))))
  replace z1 : IsZip g1 z TI TO .ellipsis := z1
  refine wpAny_bind ?_
  simp only [List.zipIdx_cons, List.zipIdx_nil, List.forIn_cons, List.forIn_nil]
  refine wpAny_bind (wpAny_bind (wpAny_onRaise ?_))
  show wpAny _ _ (Builtin.SmallTypes.nextOf (.ref i1) >>= _) _ _ _
  refine wpAny_bind (nextOf_tuple_item (t1.extBut s1.extBut D.i1z) (m1.extBut s1.extBut D.l1z) hx fun g2 u2 s2 => wpAny_pure ?_)
  have o2 : IsPair g2 TO a b := s2.extBut _ _ D.TOi1 (s1.extBut _ _ D.TOz hTO)
  refine wpAny_bind (wpAny_seqItems o2 rfl (wpAny_bind (wpAny_updateSeq_pair o2 fun g3 o3 s3 => wpAny_bind (wpAny_letGo (wpAny_pure ?_)))))
  replace o3 : IsPair g3 TO x b := o3
  refine wpAny_bind (wpAny_bind (wpAny_onRaise ?_))
  show wpAny _ _ (Builtin.SmallTypes.nextOf (.ref i2) >>= _) _ _ _
  refine wpAny_bind (wpAny_nextOf_list_item (((t2.extBut s1.extBut D.i2z).extBut s2.extBut D.i12.symm).extBut s3.extBut D.TOi2.symm) (((m2.extBut s1.extBut D.l2z).extBut s2.extBut D.l2i1).extBut s3.extBut D.l2TO) hy fun g4 u4 s4 => wpAny_pure ?_)
  have o4 : IsPair g4 TO x b := s4.extBut _ _ D.TOi2 o3
  refine wpAny_bind (wpAny_seqItems o4 rfl (wpAny_bind (wpAny_updateSeq_pair o4 fun g5 o5 s5 => wpAny_bind (wpAny_letGo (wpAny_pure (wpAny_pure ?_))))))
  replace o5 : IsPair g5 TO x y := o5
  refine wpAny_bind (wpAny_seqItems o5 rfl (wpAny_bind (wpAny_newTuple ?_)))
  have n5 : g5.objs.size = s.heap.objs.size := by rw [s5.1, s4.1, s3.1, s2.1, s1.1]
  have z5 : IsZip g5 z TI TO .ellipsis := s5.extBut _ _ D.TOz.symm (s4.extBut _ _ D.i2z.symm (s3.extBut _ _ D.TOz.symm (s2.extBut _ _ D.i1z.symm z1)))
  have k5 : Zkeep z TO i1 i2 s.heap g5 := fun c o c1 c2 c3 c4 e => s5.extBut _ _ c2 (s4.extBut _ _ c4 (s3.extBut _ _ c2 (s2.extBut _ _ c3 (s1.extBut _ _ c1 e))))
  have a5 : g5.IsTupleIter i1 l1 (k + 1) := ((u2.extBut s3.extBut D.TOi1.symm).extBut s4.extBut D.i12).extBut s5.extBut D.TOi1.symm
  have b5 : g5.IsListIter i2 l2 (k + 1) := u4.extBut s5.extBut D.TOi2.symm
  have lz : z < g5.objs.size := Heap.lt_size z5
  show wpAny _ _ (Builtin.SmallTypes.ownedTupleHandOut (.ref z) (.ref g5.objs.size) >>= _) _ _ _
  unfold Builtin.SmallTypes.ownedTupleHandOut
  have z6 : IsZip (g5.push { cls := .type "tuple", data := .seq #[x, y] }) z TI TO .ellipsis := Heap.get?_push_of_some _ z5
  refine wpAny_bind (wpAny_bind (wpAny_setField_rec z6 (by simp) fun g7 z7 s7 => ?_))
  replace z7 : IsZip g7 z TI TO (rawInt g5.objs.size) := z7
  refine wpAny_setField_rec z7 (by simp) fun g8 z8 s8 => ?_
  replace z8 : IsZip g8 z TI TO (rawInt g5.objs.size) := z8
  have up : ∀ c o, c ≠ z → g5.get? c = some o → g8.get? c = some o := fun c o c1 e => s8.extBut _ _ c1 (s7.extBut _ _ c1 (Heap.get?_push_of_some _ e))
  have p8 : IsPair g8 g5.objs.size x y := s8.extBut _ _ (Nat.ne_of_gt lz) (s7.extBut _ _ (Nat.ne_of_gt lz) (Heap.get?_push_size _ rfl))
  have n8 : g8.objs.size = g5.objs.size + 1 := by rw [s8.1, s7.1, Heap.size_push]
  rw [n5] at z8 p8 n8
  refine wpAny_pure ⟨_, rfl, ?_⟩
  show Q (.ref g5.objs.size) _
  rw [n5]
  exact q g8 z8 (up _ _ D.TOz o5) (a5.at fun o e => up _ o D.i1z e) (b5.at fun o e => up _ o D.i2z e) p8 n8 fun c o c1 c2 c3 c4 e => up c o c1 (k5 c o c1 c2 c3 c4 e)
theorem zm_end {Q : Fin → Shared → Prop} (hh : A.handled = none) (D : ZipApart z TI TO i1 i2 l1 l2) (hz : IsZip s.heap z TI TO .none) (hTI : IsPair s.heap TI (.ref i1) (.ref i2))
    (t1 : s.heap.IsTupleIter i1 l1 k) (m1 : s.heap.IsTuple l1 xs) (hx : xs[k]? = none)
    (q : ∀ h' e, Zkeep z TO i1 i2 s.heap h' → (∃ o, h'.get? e = some o ∧ o.cls = .type "StopIteration") → E (.ref e) { s with heap := h' }) :
    wpAny (model prog w) A (Builtin.«zip.__next__» ⟨[.ref z], []⟩) Q E s := by
  show wpAny _ _ (field (.ref z) 2 >>= _) _ _ _
  refine wpAny_bind (wpAny_field hz rfl (x := .bool false) rfl ?_)
  show wpAny _ _ (field (.ref z) 3 >>= _) _ _ _
  refine wpAny_bind (wpAny_field hz rfl (x := .ref TI) rfl (wpAny_bind (wpAny_seqItems hTI rfl ?_)))
  show wpAny _ _ (Builtin.SmallTypes.ownedTupleIsFree (.ref z) >>= _) _ _ _
  unfold Builtin.SmallTypes.ownedTupleIsFree
  refine wpAny_bind (wpAny_bind (wpAny_field hz rfl (x := .none) rfl (wpAny_pure ?_)))
  simp only [if_true]
  refine wpAny_bind (wpAny_rule (wpAny_bind (wpAny_field hz rfl (x := .ref TO) rfl (wpAny_bind (wpAny_setField_rec hz (by simp) fun g1 z1 (s1 : Heap.SameBut _ _ _) => ?_)))))
  replace z1 : IsZip g1 z TI TO .ellipsis := z1
  refine wpAny_bind ?_
  simp only [List.zipIdx_cons, List.zipIdx_nil, List.forIn_cons, List.forIn_nil]
  refine wpAny_bind (wpAny_bind (wpAny_onRaise ?_))
  show wpAny _ _ (Builtin.SmallTypes.nextOf (.ref i1) >>= _) _ _ _
  refine wpAny_bind (nextOf_tuple_end hh (t1.extBut s1.extBut D.i1z) (m1.extBut s1.extBut D.l1z) hx fun g2 e s2 he => ?_)
  obtain ⟨oe, ho, hc⟩ := he
  have z2 : IsZip g2 z TI TO .ellipsis := s2 _ _ D.i1z.symm z1
  have ne : e ≠ z := fun y => by subst y; rw [z2] at ho; cases ho; simp at hc
  exact wpAny_setField_rec z2 (by simp) fun g3 _ s3 => q g3 e (fun c o c1 _ c3 _ y => s3.extBut _ _ c1 (s2 _ _ c3 (s1.extBut _ _ c1 y))) ⟨oe, s3.extBut _ _ ne ho, hc⟩
theorem nx_item {Q : Option Value → Shared → Prop} (D : ZipApart z TI TO i1 i2 l1 l2) (hz : IsZip s.heap z TI TO .none) (hTI : IsPair s.heap TI (.ref i1) (.ref i2)) (hTO : IsPair s.heap TO a b)
    (t1 : s.heap.IsTupleIter i1 l1 k) (t2 : s.heap.IsListIter i2 l2 k) (m1 : s.heap.IsTuple l1 xs) (m2 : s.heap.IsList l2 ys) (hx : xs[k]? = some x) (hy : ys[k]? = some y)
    (q : ∀ h', IsZip h' z TI TO (rawInt s.heap.objs.size) → IsPair h' TO x y → h'.IsTupleIter i1 l1 (k + 1) → h'.IsListIter i2 l2 (k + 1) → IsPair h' s.heap.objs.size x y → h'.objs.size = s.heap.objs.size + 1 → Zkeep z TO i1 i2 s.heap h' → Q (some (.ref s.heap.objs.size)) { s with heap := h' }) :
    wpAny (model prog w) A (pyNext (.ref z)) Q E s := by
  have hT : s.TypeIs (.ref z) "zip" := ⟨_, hz, rfl⟩
  unfold pyNext
  exact wpAny_bind (wpAny_attempt (wpAny_callSpecial?_slot (name := Str.ofString "__next__") hT F.slot_zip_next (wpAny_call_entry F.slot_zip_next hT F.entry_zip_next
    (zm_item D hz hTI hTO t1 t2 m1 m2 hx hy fun h' a1 a2 a3 a4 a5 a6 a7 => wpAny_pure (q h' a1 a2 a3 a4 a5 a6 a7)) (F.args_zip_next_1 _))))
theorem nx_end {Q : Option Value → Shared → Prop} (hh : A.handled = none) (D : ZipApart z TI TO i1 i2 l1 l2) (hz : IsZip s.heap z TI TO .none) (hTI : IsPair s.heap TI (.ref i1) (.ref i2))
    (t1 : s.heap.IsTupleIter i1 l1 k) (m1 : s.heap.IsTuple l1 xs) (hx : xs[k]? = none) (q : ∀ h', Zkeep z TO i1 i2 s.heap h' → Q none { s with heap := h' }) : wpAny (model prog w) A (pyNext (.ref z)) Q E s := by
  have hT : s.TypeIs (.ref z) "zip" := ⟨_, hz, rfl⟩
  unfold pyNext
  refine wpAny_bind (wpAny_attempt (wpAny_callSpecial?_slot (name := Str.ofString "__next__") hT F.slot_zip_next (wpAny_call_entry F.slot_zip_next hT F.entry_zip_next
    (zm_end hh D hz hTI t1 m1 hx fun h' e hk he => ?_) (F.args_zip_next_1 _))))
  obtain ⟨o, ho, hc⟩ := he
  exact wpAny_bind (wpAny_isInstance (T := "StopIteration") (b := true) ⟨o, ho, hc⟩ isSubtype_stop (wpAny_pure (q _ hk)))
end
section
variable {prog : Program} {w : World} {A : Around} {E : Value → Shared → Prop} {s : Shared}
abbrev zmH1 (h : Heap) (l1 : Addr) : Heap := h.push { cls := .type "tuple_iterator", data := .fields #[.ref l1, .int 0 0] }
abbrev zmH2 (h : Heap) (l1 l2 : Addr) : Heap := (zmH1 h l1).push { cls := .type "list_iterator", data := .fields #[.ref l2, .int 0 0] }
abbrev zmH3 (h : Heap) (l1 l2 : Addr) : Heap := (zmH2 h l1 l2).push { cls := .type "tuple", data := .seq #[.ref h.objs.size, .ref (zmH1 h l1).objs.size] }
abbrev zmH4 (h : Heap) (l1 l2 : Addr) : Heap := (zmH3 h l1 l2).push { cls := .type "tuple", data := .seq #[.none, .none] }
abbrev zmH5 (h : Heap) (l1 l2 : Addr) : Heap := (zmH4 h l1 l2).push { cls := .type "zip", data := .fields #[.none, .bool false, .bool false, .ref (zmH2 h l1 l2).objs.size, .ref (zmH3 h l1 l2).objs.size] }
theorem zm_new (l1 l2 : Addr) (xs ys : Array Value) : Meets (Builtin.«zip.__new__» ⟨[.type "zip", .ref l1, .ref l2], []⟩) (fun _ R s => s.heap.IsTuple l1 xs ∧ s.heap.IsList l2 ys ∧
      R (.ok (.ret (.ref (zmH4 s.heap l1 l2).objs.size))) { s with heap := zmH5 s.heap l1 l2 }) :=
  .of_wp fun prog w A R s h => by
    obtain ⟨hp, g, d, tk, os⟩ := s
    obtain ⟨m1, m2, h⟩ := h
    have hsub := sub_zip
    have L1 : Heap.IsTuple (Shared.heap ⟨hp, g, d, tk, os⟩) l1 xs := m1
    have L2 : Heap.IsList (Shared.heap ⟨hp.push { cls := .type "tuple_iterator", data := .fields #[.ref l1, .int 0 0] }, g, d, tk, os⟩) l2 ys := Heap.IsList.push m2 _
    wp_walk using wpAny_pyIter_tuple L1, wpAny_pyIter_list L2
    exact ⟨_, rfl, h⟩
theorem call_zm {l1 l2 : Addr} {xs ys : Array Value} {Q : Value → Shared → Prop} (m1 : s.heap.IsTuple l1 xs) (m2 : s.heap.IsList l2 ys)
    (h : ∀ h', IsZip h' (s.heap.objs.size + 4) (s.heap.objs.size + 2) (s.heap.objs.size + 3) .none → IsPair h' (s.heap.objs.size + 2) (.ref s.heap.objs.size) (.ref (s.heap.objs.size + 1)) →
      IsPair h' (s.heap.objs.size + 3) .none .none → h'.IsTupleIter s.heap.objs.size l1 0 → h'.IsListIter (s.heap.objs.size + 1) l2 0 → (∀ c o, s.heap.get? c = some o → h'.get? c = some o) → Q (.ref (s.heap.objs.size + 4)) { s with heap := h' }) :
    wpAny (model prog w) A (call (.type "zip") [.ref l1, .ref l2]) Q E s := by
  refine callType_new F.called_zip (by decide) (F.typeCall_zip_2 _ _) (F.newCall_zip_2 _ _) (fun obj => F.args_object_init_3 obj _ _) F.entry_zip_new (zm_new l1 l2 xs ys) ⟨m1, m2, ?_⟩
  have e1 : (zmH1 s.heap l1).objs.size = s.heap.objs.size + 1 := Heap.size_push ..
  have e2 : (zmH2 s.heap l1 l2).objs.size = s.heap.objs.size + 2 := by rw [Heap.size_push, e1]
  have e3 : (zmH3 s.heap l1 l2).objs.size = s.heap.objs.size + 3 := by rw [Heap.size_push, e2]
  have e4 : (zmH4 s.heap l1 l2).objs.size = s.heap.objs.size + 4 := by rw [Heap.size_push, e3]
  have g5 : (zmH5 s.heap l1 l2).get? (zmH4 s.heap l1 l2).objs.size = some _ := Heap.get?_push_size _ rfl
  have g4 : (zmH5 s.heap l1 l2).get? (zmH3 s.heap l1 l2).objs.size = some _ := Heap.get?_push_of_some _ (Heap.get?_push_size _ rfl)
  have g3 : (zmH5 s.heap l1 l2).get? (zmH2 s.heap l1 l2).objs.size = some _ := Heap.get?_push_of_some _ (Heap.get?_push_of_some _ (Heap.get?_push_size _ rfl))
  have g2 : (zmH5 s.heap l1 l2).get? (zmH1 s.heap l1).objs.size = some _ := Heap.get?_push_of_some _ (Heap.get?_push_of_some _ (Heap.get?_push_of_some _ (Heap.get?_push_size _ rfl)))
  have g1 : (zmH5 s.heap l1 l2).get? s.heap.objs.size = some _ := Heap.get?_push_of_some _ (Heap.get?_push_of_some _ (Heap.get?_push_of_some _ (Heap.get?_push_of_some _ (Heap.get?_push_size _ rfl))))
  show _ ∧ _
  rw [e2, e3, e4] at g5
  rw [e1, e2] at g3
  rw [e3] at g4
  rw [e1] at g2
  rw [e4]
  exact ⟨⟨_, g5, rfl⟩, h _ g5 g3 g4 ⟨_, g1, rfl, rfl⟩ ⟨_, g2, rfl, rfl⟩ fun c o x => Heap.get?_push_of_some _ (Heap.get?_push_of_some _ (Heap.get?_push_of_some _ (Heap.get?_push_of_some _ (Heap.get?_push_of_some _ x))))⟩
end
/-- the tuple at a and the list at b as they stand at each turn, the items in new pairs; the tuple's end is the end -/
def ItzM (K : PySem.W.Frag) (a b : Addr) : It :=
  ⟨fun i H => ∃ (xs ys : List V) (x y : V), SqT K H a xs ∧ SqL K H b ys ∧ xs[i]? = some x ∧ ys[i]? = some y,
    fun i H v H' => ∃ T x y, v = .ref T ∧ H T = none ∧ H' = upd H T (.tup [x, y]) ∧ (∀ xs, SqT K H a xs → xs[i]? = some x) ∧ ∀ ys, SqL K H b ys → ys[i]? = some y,
    fun i H => ∃ xs : List V, SqT K H a xs ∧ xs.length ≤ i⟩
theorem turn_zm {P : Program} {w : World} {K : PySem.W.Frag} {elts : List Expr} {kk : Nat} {tpos : Pos} {a b z TI TO i1 i2 : Addr} (D : ZipApart z TI TO i1 i2 a b) :
    Turn P w K (.Tuple elts kk tpos) (ItzM K a b) [z, TI, TO, i1, i2] z (fun i h => IsZip h z TI TO .none ∧ IsPair h TI (.ref i1) (.ref i2) ∧ (∃ x y, IsPair h TO x y) ∧ h.IsTupleIter i1 a i ∧ h.IsListIter i2 b i) where
  mem := List.mem_cons_self
  obj := fun i h ⟨hz, hTI, ⟨x, y, hTO⟩, ⟨o1, e1, _, d1⟩, ⟨o2, e2, _, d2⟩⟩ c hc => by
    simp only [List.mem_cons, List.not_mem_nil, or_false] at hc
    rcases hc with rfl | rfl | rfl | rfl | rfl
    · exact ⟨_, hz, fun v q => nomatch q⟩
    · exact ⟨_, hTI, fun v q => nomatch q⟩
    · exact ⟨_, hTO, fun v q => nomatch q⟩
    · exact ⟨o1, e1, fun v q => by rw [d1] at q; cases q⟩
    · exact ⟨o2, e2, fun v q => by rw [d2] at q; cases q⟩
  keep := fun i h h' ⟨hz, hTI, ⟨x, y, hTO⟩, h1, h2⟩ k =>
    ⟨k z (by simp) _ hz, k TI (by simp) _ hTI, ⟨x, y, k TO (by simp) _ hTO⟩, h1.at fun o q => k i1 (by simp) o q, h2.at fun o q => k i2 (by simp) o q⟩
  item := by
    rintro X rfl rfl rfl hc i pins s σ H E I hf ⟨hz, hTI, ⟨x0, y0, hTO⟩, h1, h2⟩ ⟨xs, ys, x, y, hqx, hqy, hx, hy⟩
    obtain ⟨its, rv, p, _⟩ := I.tuple hqx
    obtain ⟨its2, rv2, p2, _⟩ := I.list hqy
    obtain ⟨u, hu, ru⟩ := rv.get hx
    obtain ⟨u2, hu2, ru2⟩ := rv2.get hy
    have lz : z < s.heap.objs.size := Heap.lt_size hz
    refine nx_item D hz hTI hTO h1 h2 p p2.isList (x := u) (y := u2) (by simpa using hu) (by simpa using hu2) fun h' z' o' h1' h2' hT hsz hk => ?_
    refine ⟨_, rfl, wpAny_letOwnedTupleGo_zip (s := { s with heap := h' }) z' fun h'' z'' sb => ?_⟩
    have hT2 : h''.get? s.heap.objs.size = some { cls := .type "tuple", data := .seq #[u, u2] } := (sb.2 _ (Nat.ne_of_gt lz)).trans hT
    have new : ObjOk X.prog X.w (upd H s.heap.objs.size (.tup [x, y])) h'' s.heap.objs.size (.tup [x, y]) := ⟨by show 2 ≤ sizeLine; decide, [u, u2], .cons ru (.cons ru2 .nil), ⟨_, hT2, rfl, _, rfl⟩⟩
    have I1 : Inv X pins σ (upd H s.heap.objs.size (.tup [x, y])) { s with heap := h'' } := I.turnedNew (t' := s.toks) (ch := [z, TI, TO, i1, i2]) (fun c o hb q => by
      simp only [List.mem_cons, List.not_mem_nil, or_false, not_or] at hb
      exact (sb.2 c hb.1).trans (hk c o hb.1 hb.2.2.1 hb.2.2.2.1 hb.2.2.2.2 q)) hf (Nat.le_refl _) new
    refine ⟨.ref s.heap.objs.size, _, I1, rfl, ⟨_, x, y, rfl, I.hok.fresh (Nat.le_refl _), rfl, fun l hl => by rw [I.tuple_inj hl hqx]; exact hx, fun l hl => by rw [I.list_inj hl hqy]; exact hy⟩, ⟨z'', ?_, ⟨u, u2, ?_⟩, ?_, ?_⟩, fun c hcm => ?_⟩
    · exact (sb.2 _ D.TIz).trans (hk _ _ D.TIz D.TITO D.TIi1 D.TIi2 hTI)
    · exact (sb.2 _ D.TOz).trans o'
    · exact h1'.at fun o q => (sb.2 _ D.i1z).trans q
    · exact h2'.at fun o q => (sb.2 _ D.i2z).trans q
    · have lt : c < s.heap.objs.size := by
        simp only [List.mem_cons, List.not_mem_nil, or_false] at hcm
        rcases hcm with rfl | rfl | rfl | rfl | rfl
        · exact lz
        · exact Heap.lt_size hTI
        · exact Heap.lt_size hTO
        · obtain ⟨_, e1, _⟩ := h1; exact Heap.lt_size e1
        · obtain ⟨_, e2, _⟩ := h2; exact Heap.lt_size e2
      rw [upd_ne (Nat.ne_of_lt lt)]
      exact (hf c hcm).1
  done := by
    rintro X rfl rfl rfl hc i pins s σ H E I hf ⟨hz, hTI, _, h1, h2⟩ ⟨xs, hqx, hend⟩
    obtain ⟨its, rv, p, _⟩ := I.tuple hqx
    have l1 := rv.length
    refine nx_end (TO := TO) (I.ok.hd hc) D hz hTI h1 p (by simp; omega) fun h' hk => ⟨rfl, I.turnedL (t' := s.toks) (ch := [z, TI, TO, i1, i2]) (fun c o hb q => ?_) hf⟩
    simp only [List.mem_cons, List.not_mem_nil, or_false, not_or] at hb
    exact hk c o hb.1 hb.2.2.1 hb.2.2.2.1 hb.2.2.2.2 q
  self := fun A i s Q E st h => wpAny_pyIter_zip st.1 h
def iZipM (K : PySem.W.Frag) (ta : TA) : TI := fun σ H R => ta σ H fun vs H1 => ∃ a b xs ys, vs = [.ref a, .ref b] ∧ SqT K H1 a xs ∧ SqL K H1 b ys ∧ R (ItzM K a b) H1
theorem d_zipM (K) {X : Cx} {e e2 : Expr} {ta : TA} {p pos tpos : Pos} {elts : List Expr} {kk : Nat} (hg : Gl X "zip") (hm : X.mg "zip" = none) (ha : PA X [e, e2] ta)
    (hs : starEach [e, e2] X.env = (false, eval e X.env) :: starEach [e2] X.env := by rfl) (hpl : (backTo pos (starEach [e2] X.env)).any (·.1) = false := by rfl) (hK : X.K = K := by rfl) :
    PI X (.Tuple elts kk tpos) (.Call (.Name "zip" p) [e, e2] [] pos) (iZipM K ta) := by
  subst hK
  refine ⟨fun pins s σ H R I h => ?_⟩
  refine Call_ (ld_blt I hg hm PyProof.Rows.boot_zip (PyProof.Rows.callWith_type1 (thn (ha.run pos pins s σ H _ I h) fun us s1 ⟨vs, H1, I1, r1, a, b, xs, ys, ex, hqx, hqy, q⟩ => ?_) hs hpl))
  subst ex
  obtain ⟨ua, ub, rfl, ra, rb⟩ : ∃ ua ub, us = [ua, ub] ∧ RelV (.ref a) ua ∧ RelV (.ref b) ub := by
    cases r1 with
    | cons r rr => cases rr with
      | cons r' rr => cases rr; exact ⟨_, _, rfl, r, r'⟩
  cases ra
  cases rb
  obtain ⟨its, rv, p1, _⟩ := I1.tuple hqx
  obtain ⟨its2, rv2, p2, _⟩ := I1.list hqy
  have la : a < s1.heap.objs.size := by obtain ⟨o1, ho1, _⟩ := id p1; exact Heap.lt_size ho1
  refine call_zm (show s1.heap.IsTuple a its.toArray from p1) p2.isList fun h' hz hTI hTO h1 h2 hk => wpAny_pyIter_zip hz ?_
  have I2 : Inv X pins σ H1 { s1 with heap := h' } := I1.kept (t' := s1.toks) hk
  refine ⟨s1.heap.objs.size + 4, [s1.heap.objs.size + 4, s1.heap.objs.size + 2, s1.heap.objs.size + 3, s1.heap.objs.size, s1.heap.objs.size + 1], _, _, H1, rfl, I2, turn_zm (PySem.W.ktu_apart s1.heap.objs.size a b la p2.lt), ⟨hz, hTI, ⟨_, _, hTO⟩, h1, h2⟩, fun c hcm => ?_, q⟩
  have hle : s1.heap.objs.size ≤ c := by
    simp only [List.mem_cons, List.not_mem_nil, or_false] at hcm
    rcases hcm with rfl | rfl | rfl | rfl | rfl
    · exact Nat.le_add_right _ _
    · exact Nat.le_add_right _ _
    · exact Nat.le_add_right _ _
    · exact Nat.le_refl _
    · exact Nat.le_add_right _ _
  exact I1.fpOk hle (I1.hok.fresh hle)
section
variable {K : PySem.W.Frag} {a b : Addr} {g : TG} {tt : TT} {te : TE} {σ : Sl} {H : Hp} {Q : VK} {F : List MP} {L : List (Addr × HO)} {ta : TA}
def kZipM (K : PySem.W.Frag) (vs : List V) (R : It → Hp → Prop) (H : Hp) : Prop := ∃ a b xs ys, vs = [.ref a, .ref b] ∧ SqT K H a xs ∧ SqL K H b ys ∧ R (ItzM K a b) H
theorem r_zipM {R : It → Hp → Prop} (h : ta σ H fun vs H1 => kZipM K vs R H1) : iZipM K ta σ H R := h
theorem x_zipM {R : It → Hp → Prop} {xs ys : List V} (h1 : SqT K H a xs) (h2 : SqL K H b ys) (q : R (ItzM K a b) H) : kZipM K [.ref a, .ref b] R H := ⟨a, b, xs, ys, rfl, h1, h2, q⟩
/-- a comprehension over zip(tuple, list), the list no shorter -/
theorem k_lcZ {vs : List Nat} {σw : Sl} (xs ys : List V) (hl : xs.length ≤ ys.length) (hw : Wip vs σ σw) (s : S F L H) (I : Addr → Nat → Hp → Prop) (h0 : ∀ l H1, S F ((l, .lst []) :: L) H1 → I l 0 H1)
    (hq : ∀ l i H1, i ≤ xs.length → I l i H1 → SqT K H1 a xs ∧ SqL K H1 b ys)
    (hs : ∀ l i x y H1 T, xs[i]? = some x → ys[i]? = some y → I l i H1 → H1 T = none → g (.ref T) σw (upd H1 T (.tup [x, y])) fun σ2 H2 => kWip vs σw σ2 (tt σ2 H2 fun b H3 => if b = true then te σ2 H3 (kEnd l (I l (i + 1))) else I l (i + 1) H3))
    (hd : ∀ l H1, I l xs.length H1 → Q (.ref l) H1) : kLc (ItzM K a b) g tt te vs σ H Q := fun l hl0 => by
  have e := hw.eq
  subst e
  refine ⟨fun i m H1 => m = xs.length - i ∧ i ≤ xs.length ∧ I l i H1, ⟨xs.length, rfl, Nat.zero_le _, h0 l _ (s.new hl0)⟩, ?_⟩
  rintro i m H1 ⟨rfl, hi, p⟩
  obtain ⟨qx, qy⟩ := hq l i H1 hi p
  by_cases hlt : i < xs.length
  · have hx : xs[i]? = some xs[i] := List.getElem?_eq_getElem hlt
    have hlt2 : i < ys.length := by omega
    have hy : ys[i]? = some ys[i] := List.getElem?_eq_getElem hlt2
    refine .inr ⟨⟨xs, ys, _, _, qx, qy, hx, hy⟩, I l (i + 1), fun H' p' => ⟨xs.length - (i + 1), by omega, rfl, hlt, p'⟩, fun v H' y => ?_⟩
    obtain ⟨T, x', y', rfl, hT, rfl, f1, f2⟩ := y
    exact hs l i x' y' H1 T (f1 xs qx) (f2 ys qy) p hT
  · have e : i = xs.length := by omega
    subst e
    exact .inl ⟨⟨xs, qx, Nat.le_refl _⟩, hd l H1 p⟩
end
end TW
namespace TW
open PySem PySem.Spec PyProof.Rows L2 TL
/-! ### texts -/
theorem bt_zip : bootBuiltins "zip" = some (.type "zip") := by decide +kernel
def rJoin (K : PySem.W.Frag) : V → List V → Hp → VK → Prop := fun x xs H Q => ∃ (p : Addr) (a : Str) (ys : List Str), x = .str a ∧ xs = [.ref p] ∧ (SqL K H p (ys.map V.str) ∨ SqT K H p (ys.map V.str)) ∧
    (ys.map (·.length)).sum + ys.length * a.length ≤ 16777216 ∧ Q (.str (Txt.join a ys)) H
def rSplit : V → List V → Hp → VK → Prop := fun x xs H Q => ∃ z : Str × Str, x = .str z.1 ∧ xs = [.str z.2] ∧ (z.2.length == 0) = false ∧ z.1.length + 2 ≤ sizeLine ∧ rNewStrs (Txt.split z.1 z.2) H Q
section
variable {X : Cx} {o e : Expr} {to te : TE}
theorem d_join (K) {apos pos : Pos} (ho : PE X o to) (he : PE X e te) (hs : starEach [e] X.env = [(false, eval e X.env)] := by rfl) (hbase : attributeBase o "join" X.env (eval o X.env) = eval o X.env := by rfl) (hline : (apos.endLine == pos.line) = true := by rfl) (hK : X.K = K := by rfl) :
    PE X (.Call (.Attribute o "join" apos) [e] [] pos) (tM1 (rJoin K) to te) := by
  subst hK
  refine pe_m1 F.slot_str_join F.type_str_join (fun pins s σ H x xs v us Q I rx rs h => ?_) ho he hs hbase hline
  obtain ⟨p, a, ys, h⟩ := h
  exact mt_join pins s σ H x xs v us Q I rx rs ⟨a, p, ys, h⟩
theorem d_split {apos pos : Pos} (ho : PE X o to) (he : PE X e te) (hs : starEach [e] X.env = [(false, eval e X.env)] := by rfl) (hbase : attributeBase o "split" X.env (eval o X.env) = eval o X.env := by rfl) (hline : (apos.endLine == pos.line) = true := by rfl) :
    PE X (.Call (.Attribute o "split" apos) [e] [] pos) (tM1 rSplit to te) := by
  refine pe_m1 F.slot_str_split F.type_str_split (fun pins s σ H x xs v us Q I rx rs h => ?_) ho he hs hbase hline
  obtain ⟨⟨a, b⟩, h⟩ := h
  exact mt_split pins s σ H x xs v us Q I rx rs ⟨a, b, h⟩
def rIntS : List V → Hp → VK → Prop := fun xs H Q => ∃ (n : Int) (a : Str), xs = [.str a] ∧ PySem.intText? a = some n ∧ a.length ≤ 640 ∧ Q (.int n) H
theorem c_intS : CallR X (.type "int") rIntS := fun pins s σ H vs us Q I r ⟨n, a, h⟩ => call_int_str pins s σ H vs us Q I r ⟨a, n, h⟩
def rNiSign : R2 := fun x y H Q => ∃ (c : Nat) (z : Str), x = .str ⟨#[c]⟩ ∧ y = .str z ∧ Q (.bl (!decide (c ∈ z.cps.toList))) H
theorem o_niSign : OpR X (compareOp .NotIn) rNiSign := op_notIn_sign
end
def kStr (x : V) (R : Prop) : Prop := (∃ a, x = .str a) ∧ R
section
variable {K : PySem.W.Frag} {H : Hp} {Q : VK} {F : List MP} {L L' : List (Addr × HO)} {p q : Addr} {a b : Str} {ys : List Str} {r : V → List V → Hp → VK → Prop} {ta tb : TE} {σ : Sl} {n : Int} {c : Nat} {R : Prop}
theorem r_m1 (h : ta σ H fun x H1 => kStr x (tb σ H1 fun y H2 => r x [y] H2 Q)) : tM1 r ta tb σ H Q := h
theorem x_kstr (h : R) : kStr (.str a) R := ⟨⟨a, rfl⟩, h⟩
instance : Step (tM1 r ta tb σ H Q) (ta σ H fun x H1 => kStr x (tb σ H1 fun y H2 => r x [y] H2 Q)) := ⟨id⟩
instance : Step (kStr (.str a) R) R := ⟨x_kstr⟩
instance {ta : TA} {R : It → Hp → Prop} : Step (iZipM K ta σ H R) (ta σ H fun vs H1 => kZipM K vs R H1) := ⟨id⟩
theorem x_joinL (h : SqL K H p (ys.map V.str)) (hl : (ys.map (·.length)).sum + ys.length * a.length ≤ 16777216) (q : Q (.str (Txt.join a ys)) H) : rJoin K (.str a) [.ref p] H Q := ⟨p, a, ys, rfl, rfl, .inl h, hl, q⟩
theorem x_split (s : S F L H) (h : (b.length == 0) = false) (hl : a.length + 2 ≤ sizeLine) (q : ∀ l H1, S F ((l, .lst ((Txt.split a b).map V.str)) :: L) H1 → Q (.ref l) H1) : rSplit (.str a) [.str b] H Q := ⟨(a, b), rfl, rfl, h, hl, fun l hl => q l _ (s.new hl)⟩
theorem x_intS (h : PySem.intText? a = some n) (hl : a.length ≤ 640) (q : Q (.int n) H) : rIntS [.str a] H Q := ⟨n, a, rfl, h, hl, q⟩
theorem x_niSign (q : Q (.bl (!decide (c ∈ a.cps.toList))) H) : rNiSign (.str ⟨#[c]⟩) (.str a) H Q := ⟨c, a, rfl, rfl, q⟩
theorem x_str {i : Int} (h : i.natAbs < 1000000) (q : Q (.str (Str.ofString (toString i))) H) : rStrOf [.int i] H Q := ⟨i, rfl, by
  have : i.natAbs.log2 ≤ i.natAbs := Nat.log2_le_self _
  by_cases z : i.natAbs = 0
  · rw [z]; decide
  · have h2 : i.natAbs.log2 < 20 := (Nat.log2_lt z).mpr (Nat.lt_of_lt_of_le h (by decide))
    omega, q⟩
theorem x_ixS (h : a.length ≤ sizeLine) {i : Int} (e : atI a.cps.toList i = some c) (q : Q (.str ⟨#[c]⟩) H) : rIx K (.str a) (.int i) H Q := by
  refine .inr (.inr ⟨a, i, c, rfl, rfl, h, e, q⟩)
end
section
variable {σ : Sl} {H : Hp} {Q : VK} {F : List MP} {L : List (Addr × HO)} {g : TG} {tt : TT} {te : TE} {z : Str}
def kIs (x : V) (R : It → Hp → Prop) (H : Hp) : Prop := ∃ z : { z : Str // x = .str z }, R (Its z.1) H
theorem x_is {R : It → Hp → Prop} (q : R (Its z) H) : kIs (.str z) R H := ⟨⟨z, rfl⟩, q⟩
instance {R : It → Hp → Prop} {ta : TE} : Step (iStr ta σ H R) (ta σ H fun x H1 => kIs x R H1) := ⟨fun h => by
  have e : (fun (x : V) (H1 : Hp) => kIs x R H1) = fun v H1 => ∃ x, v = .str x ∧ R (Its x) H1 := by
    funext v H1
    exact propext ⟨fun ⟨⟨z, e⟩, q⟩ => ⟨z, e, q⟩, fun ⟨z, e, q⟩ => ⟨⟨z, e⟩, q⟩⟩
  show ta σ H fun v H1 => ∃ x, v = .str x ∧ R (Its x) H1
  rw [← e]; exact h⟩
instance {R : It → Hp → Prop} : Step (kIs (.str z) R H) (R (Its z) H) := ⟨x_is⟩
/-- a comprehension over a text's signs -/
theorem k_lcS {vs : List Nat} {σw : Sl} (hw : Wip vs σ σw) (s : S F L H) (I : Addr → Nat → Hp → Prop) (h0 : ∀ l H1, S F ((l, .lst []) :: L) H1 → I l 0 H1)
    (hs : ∀ l i c H1, (tl z)[i]? = some c → I l i H1 → g (.str ⟨#[c]⟩) σw H1 fun σ2 H2 => kWip vs σw σ2 (tt σ2 H2 fun b H3 => if b = true then te σ2 H3 (kEnd l (I l (i + 1))) else I l (i + 1) H3))
    (hd : ∀ l H1, I l (tl z).length H1 → Q (.ref l) H1) : kLc (Its z) g tt te vs σ H Q := fun l hl0 => by
  have e := hw.eq
  subst e
  have en : z.cps.size = (tl z).length := by simp [tl]
  refine ⟨fun i m H1 => m = (tl z).length - i ∧ i ≤ (tl z).length ∧ I l i H1, ⟨(tl z).length, rfl, Nat.zero_le _, h0 l _ (s.new hl0)⟩, ?_⟩
  rintro i m H1 ⟨rfl, hi, p⟩
  by_cases hlt : i < (tl z).length
  · refine .inr ⟨by show i < z.cps.size; omega, I l (i + 1), fun H' p' => ⟨(tl z).length - (i + 1), by omega, rfl, hlt, p'⟩, fun v H' y => ?_⟩
    obtain ⟨rfl, c, hc, rfl⟩ := y
    exact hs l i c _ (by rw [← hc]; simp [tl]) p
  · have e : i = (tl z).length := by omega
    subst e
    exact .inl ⟨by show z.cps.size ≤ _; omega, hd l H1 p⟩
end
/-! ### numbers written, texts of halls -/
def num (i : Int) : Str := Str.ofString (toString i)
theorem num_tl {i : Int} (h : 0 ≤ i) : tl (num i) = numL i.toNat := by
  obtain ⟨n, rfl⟩ := Int.eq_ofNat_of_zero_le h
  exact tl_num n
theorem num_len {i : Int} (h0 : 0 ≤ i) (h : i < 100000) : (num i).length ≤ 5 := by
  rw [len_tl, num_tl h0]
  exact numL_len (by decide) (by omega)
def wBl : Str := " "
def wNl : Str := "\n"
def rowT (w : Str) (xs : List Int) : Str := Txt.join wBl (w :: xs.map num)
def rowsT (d : HD) : List Str := [rowT "modulus" [d.m], rowT "takes" d.tk, rowT "calls" d.cl, rowT "lateness" [d.lt]]
def htext (d : HD) : Str := Txt.join wNl (rowsT d)
def wordsL : List Str := ["modulus", "takes", "calls", "lateness"]
def rowI (d : HD) : List (List Int) := [[d.m], d.tk, d.cl, [d.lt]]
theorem app_len {a b : Str} : (a ++ b).length = a.length + b.length := by
  rw [len_tl, len_tl, len_tl, tl_append, List.length_append]
theorem join_len {a : Str} : ∀ {ys : List Str}, (Txt.join a ys).length ≤ (ys.map (·.length)).sum + ys.length * a.length := by
  intro ys
  rw [join_eq]
  induction ys with
  | nil => exact Nat.zero_le _
  | cons y r ih =>
    cases r with
    | nil => show y.length ≤ _; simp
    | cons z r =>
      show (y ++ a ++ Str.join a (z :: r)).length ≤ _
      rw [app_len, app_len, List.map_cons, List.sum_cons, List.length_cons (a := y), Nat.succ_mul]
      omega
theorem nums_len {xs : List Int} (h : ∀ x ∈ xs, 0 ≤ x ∧ x < 100000) : ((xs.map num).map (·.length)).sum ≤ xs.length * 5 := by
  induction xs with
  | nil => exact Nat.le_refl _
  | cons x r ih =>
    rw [List.map_cons, List.map_cons, List.sum_cons, List.length_cons, Nat.succ_mul]
    have h1 := h x List.mem_cons_self
    have := num_len h1.1 h1.2
    have := ih fun y hy => h y (List.mem_cons_of_mem _ hy)
    omega
/-- a row's bound -/
theorem row_fit {w : Str} {xs : List Int} (hw : w.length ≤ 10) (hl : xs.length ≤ 1000) (h : ∀ x ∈ xs, 0 ≤ x ∧ x < 100000) : ((w :: xs.map num).map (·.length)).sum + (w :: xs.map num).length * wBl.length ≤ 7000 := by
  have := nums_len h
  rw [List.map_cons, List.sum_cons, List.length_cons, List.length_map, show wBl.length = 1 from rfl]
  omega
theorem row_len {w : Str} {xs : List Int} (hw : w.length ≤ 10) (hl : xs.length ≤ 1000) (h : ∀ x ∈ xs, 0 ≤ x ∧ x < 100000) : (rowT w xs).length ≤ 7000 := Nat.le_trans join_len (row_fit hw hl h)
structure RowOk (ws : List Str) (rr : List (List Int)) : Prop where
  len : ws.length = rr.length
  w : ∀ w ∈ ws, w.length ≤ 10
  r : ∀ xs ∈ rr, xs.length ≤ 1000 ∧ ∀ x ∈ xs, 0 ≤ x ∧ x < 100000
theorem rows_ok {d : HD} (h : d.ok) : RowOk wordsL (rowI d) := by
  obtain ⟨m0, m1, t0, t1, t2, c0, c1, c2, l0, l1⟩ := id h
  refine ⟨rfl, fun w hw => ?_, fun xs hx => ?_⟩
  · simp only [wordsL, List.mem_cons, List.not_mem_nil, or_false] at hw
    rcases hw with rfl | rfl | rfl | rfl <;> decide
  · simp only [rowI, List.mem_cons, List.not_mem_nil, or_false] at hx
    rcases hx with rfl | rfl | rfl | rfl
    · exact ⟨by rw [List.length_singleton]; decide, fun x hx => by rw [List.mem_singleton.mp hx]; omega⟩
    · exact ⟨by omega, fun x hx => by have := t2 x hx; omega⟩
    · exact ⟨by omega, fun x hx => by have := c2 x hx; omega⟩
    · exact ⟨by rw [List.length_singleton]; decide, fun x hx => by rw [List.mem_singleton.mp hx]; omega⟩
theorem rowsT_eq {d : HD} : rowsT d = List.zipWith rowT wordsL (rowI d) := rfl
theorem row_at {d : HD} (h : d.ok) {F : List MP} {p0 p1 p2 p3 : Addr} (f0 : cel p0 (.lst [.int d.m]) ∈ F) (f1 : cel p1 (.lst (d.tk.map V.int)) ∈ F) (f2 : cel p2 (.lst (d.cl.map V.int)) ∈ F) (f3 : cel p3 (.lst [.int d.lt]) ∈ F) {i : Nat} {x y : V}
    (hx : (wordsL.map V.str)[i]? = some x) (hy : [V.ref p0, V.ref p1, V.ref p2, V.ref p3][i]? = some y) :
    ∃ w q ns, x = .str w ∧ y = .ref q ∧ cel q (.lst (ns.map V.int)) ∈ F ∧ (rowsT d)[i]? = some (rowT w ns) ∧ w.length ≤ 10 ∧ ns.length ≤ 12 ∧ (∀ n ∈ ns, 0 ≤ n ∧ n < 100000) ∧ 0 < ns.length := by
  obtain ⟨m0, m1, t0, t1, t2, c0, c1, c2, l0, l1⟩ := id h
  match i, hx, hy with
  | 0, hx, hy => cases hx; cases hy; exact ⟨_, _, [d.m], rfl, rfl, f0, rfl, by decide, by rw [List.length_singleton]; decide, fun n hn => by rw [List.mem_singleton.mp hn]; omega, Nat.one_pos⟩
  | 1, hx, hy => cases hx; cases hy; exact ⟨_, _, d.tk, rfl, rfl, f1, rfl, by decide, t1, fun n hn => by have := t2 n hn; omega, t0⟩
  | 2, hx, hy => cases hx; cases hy; exact ⟨_, _, d.cl, rfl, rfl, f2, rfl, by decide, c1, fun n hn => by have := c2 n hn; omega, c0⟩
  | 3, hx, hy => cases hx; cases hy; exact ⟨_, _, [d.lt], rfl, rfl, f3, rfl, by decide, by rw [List.length_singleton]; decide, fun n hn => by rw [List.mem_singleton.mp hn]; omega, Nat.one_pos⟩
  | n + 4, hx, hy => cases hx
theorem take_map_snoc {α β : Type} {f : α → β} {xs : List α} {i : Nat} {x : α} (h : xs[i]? = some x) : (xs.take i).map f ++ [f x] = (xs.take (i + 1)).map f := by
  rw [List.take_add_one, h, Option.toList_some, List.map_append]; rfl
theorem htext_fit {d : HD} (h : d.ok) : ((rowsT d).map (·.length)).sum + (rowsT d).length * wNl.length ≤ 30000 := by
  obtain ⟨m0, m1, t0, t1, t2, c0, c1, c2, l0, l1⟩ := id h
  have e1 : (rowT "modulus" [d.m]).length ≤ 7000 := row_len (by decide) (by show 1 ≤ 1000; decide) fun x hx => by rw [List.mem_singleton.mp hx]; omega
  have e2 : (rowT "takes" d.tk).length ≤ 7000 := row_len (by decide) (by omega) fun x hx => by have := t2 x hx; omega
  have e3 : (rowT "calls" d.cl).length ≤ 7000 := row_len (by decide) (by omega) fun x hx => by have := c2 x hx; omega
  have e4 : (rowT "lateness" [d.lt]).length ≤ 7000 := row_len (by decide) (by show 1 ≤ 1000; decide) fun x hx => by rw [List.mem_singleton.mp hx]; omega
  simp only [rowsT, List.map_cons, List.map_nil, List.sum_cons, List.sum_nil, List.length_cons, List.length_nil, show wNl.length = 1 from rfl]
  omega
theorem htext_len {d : HD} (h : d.ok) : (htext d).length ≤ 30000 := Nat.le_trans join_len (htext_fit h)
def spText (K : PySem.W.Frag) : Sp := fun vs H Q _ => ∃ (F : List MP) (L : List (Addr × HO)) (x : Addr) (d : HD), vs = [.ref x] ∧ d.ok ∧ hallP K x d ∈ F ∧ S F L H ∧ ∀ H', S F L H' → Q (.str (htext d)) H'
section
variable {P : Program} {w : World} {K : PySem.W.Frag} {mg : Str → Option Value} {base : Heap} {H : Hp} {Q : VK} {E : XK} {F : List MP} {L : List (Addr × HO)} {x : Addr} {d : HD} {k : Nat} {f : Addr} {fd : FuncData} {ps : List Str} {sp : Sp}
theorem c_text (s : S F L H) (e : hallP K x d ∈ F) (ok : d.ok) (h : ∀ H', S F L H' → Q (.str (htext d)) H') : spText K [.ref x] H Q E := ⟨F, L, x, d, rfl, ok, e, s, h⟩
/-- a promise with exceptions, where none may leave -/
theorem FnOk.ox (G : FnOk P w K mg base (L2.CX P w) k f fd ps sp) : FnOk P w K mg base CX0 k f fd ps (fun vs H Q _ => sp vs H Q fun _ _ _ => False) :=
  ⟨fun vs H Q E q => G.len vs H Q _ q, fun A outer s H args us vs Q E hr he hb hv hs => codeAny_mono (G.run A outer s H args us vs Q (fun _ _ _ => False) hr he hb hv hs) fun r s' q => by
    match r, q with
    | .ok (.ret u), q => exact q
    | .error e, ⟨_, _, _, _, _, _, _, _, _, _, _, _, z⟩ => exact z.elim⟩
end
end TW
namespace TW
open PySem PySem.Spec PyProof.Rows L2 TL
/-! ### classmethods; a class called by a local name -/
def readB (K : PySem.W.Frag) (C : Addr) : Bool := PySem.W.readsIn K C (.type "type") && He.eqO (PySem.W.specialIn K (.ref C) "__getattribute__") (some (some (.builtin "type.__getattribute__")))
theorem readB_ok {K : PySem.W.Frag} {C : Addr} (h : readB K C = true) : ClX.CRead K C (.type "type") := by
  obtain ⟨h1, h2⟩ := He.ba h
  exact ⟨h1, He.eqO_ok h2⟩
abbrev cmA (K : PySem.W.Frag) (C : Addr) (m : Str) : Addr := He5.wf K C "classmethod" m
def cmB (K : PySem.W.Frag) (C : Addr) (m : Str) : Bool := He5.wrapB K C "classmethod" "classmethod.__get__" m && (PySem.W.fnIn K (cmA K C m) && readB K C)
structure CmF (K : PySem.W.Frag) (C : Addr) (m : Str) : Prop where
  rd : ClX.CRead K C (.type "type")
  cm : ClX.CMet K C (.type "type") m (He.ma K C m) (cmA K C m)
theorem cmB_ok {K : PySem.W.Frag} {C : Addr} {m : Str} (h : cmB K C m = true) : CmF K C m := by
  obtain ⟨h1, h2⟩ := He.ba h
  obtain ⟨h2, h3⟩ := He.ba h2
  exact ⟨readB_ok h3, He5.cmet_of h1 h2⟩
structure Dcm (P : Program) (w : World) (K : PySem.W.Frag) (mg : Str → Option Value) (base : Heap) (CX : CXT) (k : Nat) (C : Addr) (m : Str) (ps : List Str) (sp : Sp) : Prop where
  ex : ∃ fd, CmF K C m ∧ Binds K fd ps [] ∧ FnOk P w K mg base CX k (cmA K C m) fd ps sp
section
variable {P : Program} {w : World} {K : PySem.W.Frag} {mg : Str → Option Value} {base : Heap} {CX : CXT} {k : Nat} {x m qual : Str} {ps : List Str} {sp : Sp} {f p C : Addr} {params : Arguments} {body : List Stmt} {scope : Scope}
theorem mk_Dcm (c : CmF K C m) (h : ∃ fd, FunD K m qual params body scope [] [] (cmA K C m) fd)
    (hb : ∀ (kV doc pm : Value) (an : Option Addr) (cdv ct : Value) (us : List Value), us.length = ps.length → bindArgs (PySem.W.fnOf m qual params body scope .none kV doc pm an cdv ct) ⟨us, []⟩ = pure (ps.zip us))
    (ok : ∀ fd, FunD K m qual params body scope [] [] (cmA K C m) fd → FnOk P w K mg base CX k (cmA K C m) fd ps sp) : Dcm P w K mg base CX k C m ps sp := by
  obtain ⟨fd, F⟩ := h
  exact ⟨fd, c, F.bindsN hb, ok fd F⟩
theorem Dcm.ox (D : Dcm P w K mg base (L2.CX P w) k C m ps sp) : Dcm P w K mg base CX0 k C m ps (fun vs H Q _ => sp vs H Q fun _ _ _ => False) := by
  obtain ⟨fd, c, b, F⟩ := D.ex
  exact ⟨fd, c, b, FnOk.ox F⟩
theorem Df.ox (D : Df P w K mg base (L2.CX P w) k x ps sp) : Df P w K mg base CX0 k x ps (fun vs H Q _ => sp vs H Q fun _ _ _ => False) := by
  obtain ⟨f, fd, a, c, b, F⟩ := D.ex
  exact ⟨f, fd, a, c, b, FnOk.ox F⟩
theorem Dm.ox (D : Dm P w K mg base (L2.CX P w) k C m ps sp) : Dm P w K mg base CX0 k C m ps (fun vs H Q _ => sp vs H Q fun _ _ _ => False) := by
  obtain ⟨f, fd, a, c, b, F⟩ := D.ex
  exact ⟨f, fd, a, c, b, FnOk.ox F⟩
theorem Dk.ox (D : Dk P w K mg base (L2.CX P w) k C x ps sp) : Dk P w K mg base CX0 k C x ps (fun vs H Q _ => sp vs H Q fun _ _ _ => False) := by
  obtain ⟨f, fd, a, c, b, F⟩ := D.ex
  exact ⟨f, fd, a, c, b, FnOk.ox F⟩
end
section
variable {X : Cx} {k i : Nat} {C : Addr} {ps : List Str} {sp : Sp} {x m : Str} {p pos apos : Pos} {e o : Expr} {es : List Expr} {ta : TE} {t : TA} {CX : CXT} {E : XK}
theorem d_cmeth {pl : Sem Bool} (D : Dcm X.prog X.w X.K X.mg X.base CX k C m ps sp) (hx : Passes CX X E) (hr : Room k X.A) (he : PE X o ta) (ha : PA X (e :: es) t)
    (hst : starEach (e :: es) X.env = (false, eval e X.env) :: starEach es X.env := by rfl) (hpl : (backTo pos (starEach es X.env)).any (·.1) = false := by rfl)
    (ht : eval (.Call (.Attribute o m apos) (e :: es) [] pos) X.env = (do
      let ov ← eval o X.env
      standAt apos.atName
      let (f, first) ← holding [ov] (getMethod ov m pl)
      callWith pos f first (backTo pos (starEach (e :: es) X.env)) (backToKw pos (keywordEach [] X.env))) := by rfl) :
    PE X (.Call (.Attribute o m apos) (e :: es) [] pos) (ClX.tCMeth C sp E ta t) := by
  obtain ⟨fd, c, b, F⟩ := D.ex
  refine ClX.pe_cmeth (pl := pl) he c.rd c.cm ((FnOk.raw F b .nil).imp fun vs H Q E h => ?_) hr hx ha hst hpl ht
  rw [List.append_nil]; exact h
/-- C(e, ..), C held by a local name -/
def tMakeV (i : Nat) (C : Addr) (sp : Sp) (E : XK) (t : TA) : TE := fun σ H Q => σ[i]? = some (some (.ref C)) ∧ tMake C sp [] E t σ H Q
theorem d_makeV (i : Nat) (D : Dk X.prog X.w X.K X.mg X.base CX k C x ps sp) {y : Str} (hx : Passes CX X E) (hr : Room (k + 1) X.A) (ha : PA X (e :: es) t) (hN : X.N[i]? = some y := by rfl) (hv : Vis X.env.scope y := by first | exact Or.inl rfl | exact Or.inr rfl)
    (hdb : (y == ("__debug__" : Str)) = false := by decide) (hcd : (y == ("__classdict__" : Str)) = false := by decide)
    (he : starEach (e :: es) X.env = (false, eval e X.env) :: starEach es X.env := by rfl) (hpl : (backTo pos (starEach es X.env)).any (·.1) = false := by rfl) : PE X (.Call (.Name y p) (e :: es) [] pos) (tMakeV i C sp E t) := by
  obtain ⟨f, fd, mf, M, b, F⟩ := D.ex
  refine ⟨fun pins s σ H Q I h => ?_⟩
  obtain ⟨hs, h⟩ := h
  refine wpAny_Call_Name_kw (thn ((pe_var (pos := p) hN hv hdb hcd).run pins s σ H (fun v H1 => v = .ref C ∧ H1 = H) I ⟨.ref C, hs, rfl, rfl⟩) fun u s1 ⟨v, H1, I1, r1, q1⟩ => ?_)
  obtain ⟨rfl, rfl⟩ := q1
  obtain rfl : u = Value.ref C := r1
  refine PySem.W.callWith_K (h₀ := X.base) I.ok.mod.kin M.kp (thn (ha.run pos pins s1 σ _ _ I1 h) fun us s2 ⟨vs, H2, I2, r, q⟩ => ⟨I2.kIn, ?_⟩) he hpl
  exact run_make M F hr b .nil hx I2 r q
end
section
variable {K : PySem.W.Frag} {H : Hp} {Q : VK} {σ : Sl} {C : Addr} {sp : Sp} {E : XK} {ta : TE} {t : TA} {i : Nat} {F : List MP} {L : List (Addr × HO)} {x : Str} {vs : List V}
def kCm (C : Addr) (sp : Sp) (E : XK) (t : TA) (σ : Sl) (x : V) (H1 : Hp) (Q : VK) : Prop := x = .ref C ∧ t σ H1 fun vs H2 => sp (.ref C :: vs) H2 Q E
theorem x_cm (h : t σ H fun vs H2 => sp (.ref C :: vs) H2 Q E) : kCm C sp E t σ (.ref C) H Q := ⟨rfl, h⟩
instance : Step (ClX.tCMeth C sp E ta t σ H Q) (ta σ H fun x H1 => kCm C sp E t σ x H1 Q) := ⟨id⟩
instance : Step (kCm C sp E t σ (.ref C) H Q) (t σ H fun vs H2 => sp (.ref C :: vs) H2 Q E) := ⟨x_cm⟩
instance [h : Nth i σ (.ref C)] : Step (tMakeV i C sp E t σ H Q) (t σ H fun vs H1 => rMake C sp E vs H1 Q) := ⟨fun q => ⟨h.get, r_make q⟩⟩
/-- a tuple of the module's top -/
theorem S.top {s : S F L H} (h : ∀ H : Hp, SqT K H (He.ga K x) vs) : S (tuF K (He.ga K x) vs :: F) L H := s.put_ _ fun E _ => h E
end
end TW
namespace TW
open PySem PySem.Spec PyProof.Rows L2 TL
/-! ### numbers and texts read -/
def dgB (c : Nat) : Bool := decide (48 ≤ c ∧ c ≤ 57)
def okN (w : Str) : Prop := 1 ≤ w.length ∧ w.length ≤ 5 ∧ (tl w).all dgB = true ∧ ¬ (1 < w.length ∧ (tl w)[0]? = some 48)
instance {w : Str} : Decidable (okN w) := by unfold okN; infer_instance
def valN (w : Str) : Int := ((NumText.digitsVal (tl w) : Nat) : Int)
def rdN (w : Str) : Option Int := if okN w then some (valN w) else none
def optV : Option Int → V
  | none => .non
  | some n => .int n
theorem int_valN {w : Str} (h : okN w) : PySem.intText? w = some (valN w) := by
  obtain ⟨h1, h2, h3, _⟩ := h
  refine intText_digits (x := w) (fun c hc => ?_) (fun z => ?_) (by omega)
  · exact of_decide_eq_true (List.all_eq_true.mp h3 c hc)
  · rw [len_tl, show tl w = [] from z] at h1
    exact absurd h1 (by decide)
theorem num_ok {i : Int} (h0 : 0 ≤ i) (h : i < 100000) : okN (num i) ∧ valN (num i) = i := by
  obtain ⟨n, rfl⟩ := Int.eq_ofNat_of_zero_le h0
  have e : tl (num (n : Int)) = numL n := tl_num n
  refine ⟨⟨?_, num_len h0 h, ?_, ?_⟩, ?_⟩
  · rw [len_tl, e]
    exact List.length_pos_iff.mpr (numL_ne n)
  · rw [e]
    exact List.all_eq_true.mpr fun c hc => decide_eq_true (numL_digits n c hc)
  · rw [len_tl, e]
    rintro ⟨h1, h2⟩
    have key : ∀ m : Nat, 1 < (numL m).length → (numL m)[0]? ≠ some 48 := by
      intro m
      induction m using Nat.strongRecOn with
      | _ m ih =>
        intro a b
        by_cases hm : m < 10
        · rw [numL_lt hm, List.length_singleton] at a; exact absurd a (by decide)
        · rw [numL_step (by omega)] at b
          by_cases hm2 : m / 10 < 10
          · rw [numL_lt hm2] at b
            have b : some (48 + m / 10) = some 48 := b
            have := Option.some.inj b
            omega
          · have hlen : 1 < (numL (m / 10)).length := by
              rw [numL_step (by omega), List.length_append, List.length_singleton]
              have := List.length_pos_iff.mpr (numL_ne (m / 10 / 10))
              omega
            rw [List.getElem?_append_left (by omega)] at b
            exact ih (m / 10) (by omega) hlen b
    exact key n h1 h2
  · unfold valN
    rw [e, numL_val]
theorem rdN_num {i : Int} (h0 : 0 ≤ i) (h : i < 100000) : rdN (num i) = some i := by
  obtain ⟨h1, h2⟩ := num_ok h0 h
  unfold rdN
  rw [if_pos h1, h2]
def spRead : Sp := fun vs H Q _ => ∃ (F : List MP) (L : List (Addr × HO)) (w : Str), vs = [.str w] ∧ w.length ≤ 100000 ∧ S F L H ∧ ∀ H', S F L H' → Q (optV (rdN w)) H'
theorem dig_mem {c : Nat} : (!decide (c ∈ (Str.ofString "0123456789").cps.toList)) = !dgB c := by
  have e : (Str.ofString "0123456789").cps.toList = [48, 49, 50, 51, 52, 53, 54, 55, 56, 57] := by decide +kernel
  rw [e]
  unfold dgB
  congr 1
  refine decide_eq_decide.mpr ?_
  simp only [List.mem_cons, List.not_mem_nil, or_false]
  omega
theorem any_not {xs : List Nat} {p : Nat → Bool} : ((xs.map fun c => !p c).any id) = !xs.all p := by
  induction xs with
  | nil => rfl
  | cons x r ih => rw [List.map_cons, List.any_cons, ih, List.all_cons, Bool.not_and]; rfl
theorem rdN_no {w : Str} (h : ¬ okN w) : optV (rdN w) = .non := by unfold rdN; rw [if_neg h]; rfl
theorem rdN_yes {w : Str} (h : okN w) : optV (rdN w) = .int (valN w) := by unfold rdN; rw [if_pos h]; rfl
theorem x_anyB {K : PySem.W.Frag} {H : Hp} {Q : VK} {q : Addr} {bs : List Bool} (h : SqL K H q (bs.map V.bl)) (k : Q (.bl (bs.any id)) H) : rAny K [.ref q] H Q := ⟨q, bs, rfl, h, k⟩
theorem one_eq {c : Nat} : ({ cps := #[c] } : Str) = Str.ofString "0" ↔ c = 48 := by
  have e : Str.ofString "0" = { cps := #[48] } := by decide +kernel
  rw [e]
  constructor
  · intro h
    have h1 := congrArg (fun s : Str => s.cps.getD 0 0) h
    exact h1
  · rintro rfl; rfl
theorem at_zero {z : Str} (h : 1 ≤ z.length) : atI z.cps.toList 0 = some ((tl z).getD 0 0) := by
  have hz := len_tl z
  refine atI_nat (j := 0) ?_
  rw [List.getD_eq_getElem?_getD]
  rw [List.getElem?_eq_getElem (show 0 < (tl z).length by omega)]
  rfl
theorem okN_no0 {z : Str} (h : 1 < z.length) (e : (tl z).getD 0 0 = 48) : ¬ okN z := fun y => y.2.2.2 ⟨h, by
  have hz := len_tl z
  rw [List.getD_eq_getElem?_getD, List.getElem?_eq_getElem (show 0 < (tl z).length by omega)] at e
  rw [List.getElem?_eq_getElem (show 0 < (tl z).length by omega)]
  exact congrArg some e⟩
theorem okN_mk {z : Str} (h1 : 1 ≤ z.length) (h2 : z.length ≤ 5) (h3 : (tl z).all dgB = true) (h4 : 1 < z.length → (tl z).getD 0 0 ≠ 48) : okN z := ⟨h1, h2, h3, fun ⟨a, b⟩ => h4 a (by rw [List.getD_eq_getElem?_getD, b]; rfl)⟩
/-! lists of texts compared -/
theorem eqv_strs : ∀ (xs ys : List Str), PyData.eqvAll (xs.map PyData.str) (ys.map PyData.str) = decide (xs = ys)
  | [], [] => rfl
  | [], y :: ys => by simp [PyData.eqvAll]
  | x :: xs, [] => by simp [PyData.eqvAll]
  | x :: xs, y :: ys => by
    simp only [List.map_cons, PyData.eqvAll, PyData.eqv, eqv_strs xs ys]
    by_cases e : x = y <;> by_cases e2 : xs = ys <;> simp [e, e2]
theorem can_strs : ∀ xs : List Str, (∀ s ∈ xs, PyData.strOk s = true) → PyData.canLayAll0 (xs.map PyData.str) = true
  | [], _ => rfl
  | x :: xs, h => by
    simp only [List.map_cons, PyData.canLayAll0, PyData.canLay0, can_strs xs fun s hs => h s (List.mem_cons_of_mem _ hs), h x List.mem_cons_self]
    rfl
theorem dep_strs : ∀ xs : List Str, PyData.depthAll (xs.map PyData.str) = 0
  | [] => rfl
  | x :: xs => by simp only [List.map_cons, PyData.depthAll, PyData.depth, dep_strs xs]; rfl
theorem sh_strs {xs : List Str} (h : ∀ s ∈ xs, PyData.strOk s = true) : SeqAt.shaped (.list (xs.map PyData.str)) = true := by
  simp [SeqAt.shaped, PyData.canLay0, PyData.depth, can_strs xs h, dep_strs]
theorem dp_strs {K : PySem.W.Frag} {H : Hp} : ∀ xs : List Str, DpAll K H (xs.map V.str) (xs.map PyData.str)
  | [] => .nil
  | x :: xs => .cons (.str x) (dp_strs xs)
theorem x_eqSs {K : PySem.W.Frag} {H : Hp} {Q : VK} {p q : Addr} {xs ys : List Str} (h1 : SqL K H p (xs.map V.str)) (h2 : SqL K H q (ys.map V.str)) (o1 : ∀ s ∈ xs, PyData.strOk s = true) (o2 : ∀ s ∈ ys, PyData.strOk s = true) (k : Q (.bl (decide (xs = ys))) H) : rEqA K (.ref p) (.ref q) H Q :=
  .inr ⟨_, _, .lst h1 (dp_strs xs), .lst h2 (dp_strs ys), sh_strs o1, sh_strs o2, by simp only [PyData.eqv, eqv_strs]; exact k⟩
theorem strOk_num {i : Int} (h0 : 0 ≤ i) : PyData.strOk (num i) = true := by
  unfold PyData.strOk
  rw [← Array.all_toList, List.all_eq_true]
  intro c hc
  have hc : c ∈ tl (num i) := hc
  rw [num_tl h0] at hc
  have := numL_digits _ c hc
  exact decide_eq_true (by omega)
theorem inV_nonI {xs : List Int} : inV .non (xs.map V.int) = false := by
  unfold inV
  rw [List.any_eq_false]
  intro v hv
  obtain ⟨x, _, rfl⟩ := List.mem_map.mp hv
  exact Bool.false_ne_true
theorem x_inFlT {K : PySem.W.Frag} {H : Hp} {Q : VK} {q : Addr} {xs : List V} {y : V} {b : Bool} (h : SqT K H q xs) (f : flatV y = true) (g : xs.all flatV = true) (e : inV y xs = b) (k : Q (.bl b) H) : rInA K y (.ref q) H Q := ⟨q, xs, rfl, .inr h, f, g, by rw [e]; exact k⟩
theorem rowT_app {w : Str} {n : Int} {ns : List Int} : (w ++ wBl) ++ Txt.join wBl ((n :: ns).map num) = rowT w (n :: ns) := by
  unfold rowT
  rw [join_eq, join_eq]
  rfl
theorem rowT_app' {w : Str} {ns : List Int} (h : 0 < ns.length) : (w ++ wBl) ++ Txt.join wBl (ns.map num) = rowT w ns := by
  cases ns with
  | nil => cases h
  | cons n ns => exact rowT_app
theorem nums_fit {xs : List Int} (hl : xs.length ≤ 1000) (h : ∀ x ∈ xs, 0 ≤ x ∧ x < 100000) : ((xs.map num).map (·.length)).sum + (xs.map num).length * wBl.length ≤ 7000 := by
  have := nums_len h
  rw [List.length_map, show wBl.length = 1 from rfl]
  omega
/-! splitting -/
theorem blank_free {i : Int} (h0 : 0 ≤ i) {s : Nat} (hs : s < 48 ∨ 57 < s) : s ∉ tl (num i) := by
  rw [num_tl h0]
  exact numL_free hs
theorem tl_blank : tl wBl = 32 :: [] := by decide +kernel
theorem tl_nl : tl wNl = 10 :: [] := by decide +kernel
theorem split_row {w : Str} {xs : List Int} (hw : 32 ∉ tl w) (h : ∀ x ∈ xs, 0 ≤ x) : Txt.split (rowT w xs) wBl = w :: xs.map num := by
  unfold rowT
  refine split_join tl_blank (by decide +kernel) (List.cons_ne_nil _ _) fun p hp => ?_
  rcases List.mem_cons.mp hp with rfl | hp
  · exact hw
  · obtain ⟨x, hx, rfl⟩ := List.mem_map.mp hp
    exact blank_free (h x hx) (.inl (by decide))
theorem mem_join {s : Nat} {y : Str} (hy : s ∉ tl y) : ∀ {ps : List Str}, (∀ p ∈ ps, s ∉ tl p) → s ∉ tl (Str.join y ps) := by
  intro ps
  induction ps with
  | nil => intro _ z; cases z
  | cons p r ih =>
    intro h
    cases r with
    | nil => exact h p List.mem_cons_self
    | cons q r =>
      show s ∉ tl (p ++ y ++ Str.join y (q :: r))
      rw [tl_append, tl_append]
      intro z
      rcases List.mem_append.mp z with z | z
      · rcases List.mem_append.mp z with z | z
        · exact h p List.mem_cons_self z
        · exact hy z
      · exact ih (fun p hp => h p (List.mem_cons_of_mem _ hp)) z
theorem row_nl {w : Str} {xs : List Int} (hw : 10 ∉ tl w) (h : ∀ x ∈ xs, 0 ≤ x) : 10 ∉ tl (rowT w xs) := by
  unfold rowT
  rw [join_eq]
  refine mem_join (by decide +kernel) fun p hp => ?_
  rcases List.mem_cons.mp hp with rfl | hp
  · exact hw
  · obtain ⟨x, hx, rfl⟩ := List.mem_map.mp hp
    exact blank_free (h x hx) (.inl (by decide))
theorem split_htext {d : HD} (h : d.ok) : Txt.split (htext d) wNl = rowsT d := by
  obtain ⟨m0, m1, t0, t1, t2, c0, c1, c2, l0, l1⟩ := id h
  unfold htext
  refine split_join tl_nl (by decide +kernel) (List.cons_ne_nil _ _) fun p hp => ?_
  simp only [rowsT, List.mem_cons, List.not_mem_nil, or_false] at hp
  rcases hp with rfl | rfl | rfl | rfl
  · exact row_nl (by decide +kernel) fun x hx => by rw [List.mem_singleton.mp hx]; omega
  · exact row_nl (by decide +kernel) fun x hx => (t2 x hx).1
  · exact row_nl (by decide +kernel) fun x hx => (c2 x hx).1
  · exact row_nl (by decide +kernel) fun x hx => by rw [List.mem_singleton.mp hx]; omega
/-- a written line of a hall -/
structure RowF (w : Str) (ns : List Int) : Prop where
  w10 : w.length ≤ 10
  w32 : 32 ∉ tl w
  sok : PyData.strOk w = true
  l12 : ns.length ≤ 12
  b : ∀ n ∈ ns, 0 ≤ n ∧ n < 100000
  one : ns.length = 1 ∨ inV (.str w) [.str "modulus", .str "lateness"] = false
theorem row_f {d : HD} (h : d.ok) {i : Nat} {x : V} (hx : (wordsL.map V.str)[i]? = some x) : ∃ w ns, x = .str w ∧ (rowsT d)[i]? = some (rowT w ns) ∧ (rowI d)[i]? = some ns ∧ RowF w ns := by
  obtain ⟨m0, m1, t0, t1, t2, c0, c1, c2, l0, l1⟩ := id h
  match i, hx with
  | 0, hx => cases hx; exact ⟨_, [d.m], rfl, rfl, rfl, by decide +kernel, by decide +kernel, by decide +kernel, by rw [List.length_singleton]; decide, fun n hn => by rw [List.mem_singleton.mp hn]; omega, .inl rfl⟩
  | 1, hx => cases hx; exact ⟨_, d.tk, rfl, rfl, rfl, by decide +kernel, by decide +kernel, by decide +kernel, t1, fun n hn => by have := t2 n hn; omega, .inr (by decide +kernel)⟩
  | 2, hx => cases hx; exact ⟨_, d.cl, rfl, rfl, rfl, by decide +kernel, by decide +kernel, by decide +kernel, c1, fun n hn => by have := c2 n hn; omega, .inr (by decide +kernel)⟩
  | 3, hx => cases hx; exact ⟨_, [d.lt], rfl, rfl, rfl, by decide +kernel, by decide +kernel, by decide +kernel, by rw [List.length_singleton]; decide, fun n hn => by rw [List.mem_singleton.mp hn]; omega, .inl rfl⟩
  | n + 4, hx => cases hx
/-- a list of lists of ints that stay -/
inductive LLs (K : PySem.W.Frag) (E : Hp) : List V → List (List Int) → Prop where
  | nil : LLs K E [] []
  | cons {q ns vs rr} : SqL K E q (ns.map V.int) → LLs K E vs rr → LLs K E (.ref q :: vs) (ns :: rr)
theorem LLs.mono {K : PySem.W.Frag} {E E' : Hp} (e : Same E E') {vs : List V} {rr : List (List Int)} (h : LLs K E vs rr) : LLs K E' vs rr := by
  induction h with
  | nil => exact .nil
  | cons a _ ih => exact .cons (sqL_mono e a) ih
theorem LLs.snoc {K : PySem.W.Frag} {E : Hp} {vs : List V} {rr : List (List Int)} {q : Addr} {ns : List Int} (h : LLs K E vs rr) (a : SqL K E q (ns.map V.int)) : LLs K E (vs ++ [.ref q]) (rr ++ [ns]) := by
  induction h with
  | nil => exact .cons a .nil
  | cons b _ ih => exact .cons b ih
theorem LLs.len {K : PySem.W.Frag} {E : Hp} {vs : List V} {rr : List (List Int)} (h : LLs K E vs rr) : vs.length = rr.length := by
  induction h with
  | nil => rfl
  | cons _ _ ih => rw [List.length_cons, List.length_cons, ih]
theorem LLs.get {K : PySem.W.Frag} {E : Hp} {vs : List V} {rr : List (List Int)} (h : LLs K E vs rr) : ∀ {i : Nat} {ns : List Int}, rr[i]? = some ns → ∃ q, vs[i]? = some (.ref q) ∧ SqL K E q (ns.map V.int) := by
  induction h with
  | nil => intro i ns e; cases e
  | @cons q n vs rr a _ ih =>
    intro i ns e
    cases i with
    | zero => cases e; exact ⟨q, rfl, a⟩
    | succ i => exact ih (i := i) e
def llP (K : PySem.W.Frag) (vs : List V) (rr : List (List Int)) : MP := ⟨fun E => LLs K E vs rr, fun _ _ e h => h.mono e⟩
def spParse (K : PySem.W.Frag) : Sp := fun vs H Q _ => ∃ (F : List MP) (L : List (Addr × HO)) (d : HD), vs = [.ref (hC K), .str (htext d)] ∧ d.ok ∧ S F L H ∧ ∀ x H', S (hallP K x d :: F) L H' → Q (.ref x) H'
section
variable {K : PySem.W.Frag} {H : Hp} {Q : VK} {E : XK} {F : List MP} {L : List (Addr × HO)} {d : HD} {w : Str} {vs : List V} {rr : List (List Int)} {q : Addr} {ns : List Int}
theorem c_read (s : S F L H) (h : w.length ≤ 100000) (k : ∀ H', S F L H' → Q (optV (rdN w)) H') : spRead [.str w] H Q E := ⟨F, L, w, rfl, h, s, k⟩
theorem c_parse (s : S F L H) (ok : d.ok) (k : ∀ x H', S (hallP K x d :: F) L H' → Q (.ref x) H') : spParse K [.ref (hC K), .str (htext d)] H Q E := ⟨F, L, d, rfl, ok, s, k⟩
theorem Ent.ll0 : Ent F (llP K [] []) := fun _ _ => .nil
theorem Ent.llS (h : Ent F (llP K vs rr)) (a : Ent F (liF K q (ns.map V.int))) : Ent F (llP K (vs ++ [.ref q]) (rr ++ [ns])) := fun E e => LLs.snoc (h E e) (a E e)
theorem S.llGet (s : S F L H) (h : llP K vs rr ∈ F) {i : Nat} (e : rr[i]? = some ns) : ∃ q, vs[i]? = some (.ref q) ∧ S (liF K q (ns.map V.int) :: F) L H := by
  obtain ⟨E, h1, h2, h3⟩ := s.ex
  obtain ⟨q, hq, hl⟩ := LLs.get (h2 _ h) e
  refine ⟨q, hq, ⟨E, h1, fun f hf => ?_, h3⟩, s.cell, s.nd⟩
  rcases List.mem_cons.mp hf with rfl | hf
  · exact hl
  · exact h2 f hf
theorem S.llLen (s : S F L H) (h : llP K vs rr ∈ F) : vs.length = rr.length := LLs.len (s.phi h)
end
end TW
namespace TW
open PySem PySem.Spec PyProof.Rows L2 TL StX
/-! ### halls as bytes -/
def kStar (K : PySem.W.Frag) (x : V) (R : List V → Hp → Prop) (H : Hp) : Prop := ∃ p xs, x = V.ref p ∧ (SqT K H p xs ∨ SqL K H p xs) ∧ R xs H
section
variable {X : Cx} {e : Expr} {es : List Expr} {te : TE} {t : TA} {p : Pos}
theorem d_star (K) (he : PE X e te) (hr : PA X es t) (hs : starEach (.Starred e p :: es) X.env = (true, eval e X.env) :: starEach es X.env := by rfl) (hK : X.K = K := by rfl) : PA X (.Starred e p :: es) (tStar K te t) := by
  subst hK; exact pa_star he hr hs
theorem d_fldaug (K) {o value : Expr} {f : Str} {pos tpos : Pos} {ta tv : TE} {op : Operator} {rd : V → V → Hp → VK → Prop} (ha : PE X o ta) (hv : PE X value tv) (hop : InOp X op rd) (hK : X.K = K := by rfl) : PS X (.AugAssign (.Attribute o f tpos) op value pos) (sFldAug K ta tv rd f) := by
  subst hK; exact ps_fldaug ha hv hop
end
section
variable {K : PySem.W.Frag} {H : Hp} {Q : VK} {σ : Sl} {ta te tv : TE} {t : TA} {p q x C dx : Addr} {xs : List V} {F : List MP} {L L' : List (Addr × HO)} {f : Str} {fs : List (Str × V)} {v : V} {D : Ends} {rd : V → V → Hp → VK → Prop}
instance {Q : List V → Hp → Prop} : Step (tStar K te t σ H Q) (te σ H fun x H1 => kStar K x (fun xs H1 => t σ H1 fun ys H2 => Q (xs ++ ys) H2) H1) := ⟨id⟩
theorem x_starT {R : List V → Hp → Prop} (h : SqT K H p xs) (q : R xs H) : kStar K (.ref p) R H := ⟨p, xs, rfl, .inl h, q⟩
theorem x_starL {R : List V → Hp → Prop} (h : SqL K H p xs) (q : R xs H) : kStar K (.ref p) R H := ⟨p, xs, rfl, .inr h, q⟩
/-- o.f += e, o an instance that may change -/
def kFA (K : PySem.W.Frag) (f : Str) (tv : TE) (rd : V → V → Hp → VK → Prop) (σ : Sl) (x : V) (H1 : Hp) (N : Hp → Prop) : Prop := ∃ a C dx fs v, x = .ref a ∧ H1 a = some (.ins C dx fs) ∧ Cls K C ∧ NoAttr K C f ∧ fs.lookup f = some v ∧
  tv σ H1 fun y H2 => rd v y H2 fun z H3 => ∃ dx' fs', H3 a = some (.ins C dx' fs') ∧ fs'.length < 1000 ∧ N (upd H3 a (.ins C dx' (putF f z fs')))
instance : Step (sFldAug K ta tv rd f D σ H) (ta σ H fun x H1 => kFA K f tv rd σ x H1 fun H4 => D.nx σ H4) := ⟨id⟩
theorem x_fa1 {N : Hp → Prop} {i : Int} (s : S F L H) (h : Put x (.ins C dx fs) (.ins C dx (putF f (.int (i + 1)) fs)) L L') (hc : Cls K C) (hn : NoAttr K C f) (hl : fs.lookup f = some (.int i)) (l : fs.length < 1000) (q : ∀ H1, S F L' H1 → N H1) : kFA K f (tC (.int 1)) rAdd σ (.ref x) H N :=
  ⟨x, C, dx, fs, _, rfl, s.at_ h.mem, hc, hn, hl, i, 1, rfl, rfl, dx, fs, s.at_ h.mem, l, q _ (s.put h)⟩
end
abbrev rdC (K : PySem.W.Frag) : Addr := He.ga K "Reader"
def rfs (c : Addr) (k : Int) : List (Str × V) := [("code", .ref c), ("place", .int k)]
theorem rfs_c {c : Addr} {k : Int} : (rfs c k).lookup (Str.ofString "code") = some (.ref c) := rfl
theorem rfs_p {c : Addr} {k : Int} : (rfs c k).lookup (Str.ofString "place") = some (.int k) := rfl
/-- the bytes of a hall, the last one left out -/
def ecB (d : HD) : List Int := 84 :: d.m / 256 :: d.m % 256 :: (d.tk.length : Int) :: (d.tk ++ (d.cl.length : Int) :: (d.cl ++ [d.lt]))
def ecode (d : HD) : List Int := ecB d ++ [(ecB d).sum % 256]
theorem ecB_len {d : HD} : (ecB d).length = 6 + d.tk.length + d.cl.length := by
  unfold ecB
  simp only [List.length_cons, List.length_append, List.length_nil]
  omega
theorem ecB_map {d : HD} : V.int 84 :: ([V.int (d.m / 256), V.int (d.m % 256)] ++ V.int d.tk.length :: (d.tk.map V.int ++ V.int d.cl.length :: (d.cl.map V.int ++ []))) ++ [V.int d.lt] = (ecB d).map V.int := by
  unfold ecB
  simp
theorem ecB_map2 {d : HD} : [V.int 84, V.int (d.m / 256), V.int (d.m % 256), V.int d.tk.length] ++ d.tk.map V.int ++ [V.int d.cl.length] ++ d.cl.map V.int ++ [V.int d.lt] = (ecB d).map V.int := by
  unfold ecB
  simp
theorem ecode_map {d : HD} : (ecB d).map V.int ++ [V.int ((ecB d).sum % 256)] = (ecode d).map V.int := by
  unfold ecode
  rw [List.map_append]; rfl
/-! the places in a hall's bytes -/
section
variable {d : HD}
theorem ec_0 : (ecode d)[0]? = some 84 := rfl
theorem ec_1 : (ecode d)[1]? = some (d.m / 256) := rfl
theorem ec_2 : (ecode d)[2]? = some (d.m % 256) := rfl
theorem ec_3 : (ecode d)[3]? = some (d.tk.length : Int) := rfl
theorem ecode_eq : ecode d = 84 :: d.m / 256 :: d.m % 256 :: (d.tk.length : Int) :: (d.tk ++ (d.cl.length : Int) :: (d.cl ++ d.lt :: [(ecB d).sum % 256])) := by
  unfold ecode
  conv => lhs; arg 1; unfold ecB
  simp
theorem ec_tk {j : Nat} {n : Int} (h : d.tk[j]? = some n) : (ecode d)[3 + 1 + j]? = some n := by
  have hj := (List.getElem?_eq_some_iff.mp h).1
  rw [ecode_eq, show 3 + 1 + j = j + 1 + 1 + 1 + 1 by omega]
  simp only [List.getElem?_cons_succ]
  rw [List.getElem?_append_left hj]; exact h
theorem ec_4 : (ecode d)[3 + 1 + d.tk.length]? = some (d.cl.length : Int) := by
  rw [ecode_eq, show 3 + 1 + d.tk.length = d.tk.length + 1 + 1 + 1 + 1 by omega]
  simp only [List.getElem?_cons_succ]
  rw [List.getElem?_append_right (Nat.le_refl _), Nat.sub_self]; rfl
theorem ec_cl {j : Nat} {n : Int} (h : d.cl[j]? = some n) : (ecode d)[3 + 1 + d.tk.length + 1 + j]? = some n := by
  have hj := (List.getElem?_eq_some_iff.mp h).1
  rw [ecode_eq, show 3 + 1 + d.tk.length + 1 + j = d.tk.length + (j + 1) + 1 + 1 + 1 + 1 by omega]
  simp only [List.getElem?_cons_succ]
  rw [List.getElem?_append_right (by omega), Nat.add_sub_cancel_left, List.getElem?_cons_succ, List.getElem?_append_left hj]; exact h
theorem ec_5 : (ecode d)[3 + 1 + d.tk.length + 1 + d.cl.length]? = some d.lt := by
  rw [ecode_eq, show 3 + 1 + d.tk.length + 1 + d.cl.length = d.tk.length + (d.cl.length + 1) + 1 + 1 + 1 + 1 by omega]
  simp only [List.getElem?_cons_succ]
  rw [List.getElem?_append_right (by omega), Nat.add_sub_cancel_left, List.getElem?_cons_succ, List.getElem?_append_right (Nat.le_refl _), Nat.sub_self]; rfl
theorem ecode_len : (ecode d).length = 7 + d.tk.length + d.cl.length := by
  unfold ecode
  rw [List.length_append, ecB_len, List.length_singleton]; omega
theorem ec_6 : (ecode d)[3 + 1 + d.tk.length + 1 + d.cl.length + 1]? = some ((ecB d).sum % 256) := by
  unfold ecode
  rw [List.getElem?_append_right (by rw [ecB_len]; omega), ecB_len, show 3 + 1 + d.tk.length + 1 + d.cl.length + 1 - (6 + d.tk.length + d.cl.length) = 0 by omega]; rfl
theorem ec_take {i : Int} (e : i = ((3 + 1 + d.tk.length + 1 + d.cl.length + 1 : Nat) : Int)) : cutV ((ecode d).map V.int) none (some i) = (ecB d).map V.int := by
  subst e
  rw [cutV_pre (by omega) (by rw [List.length_map, ecode_len]; omega), Int.toNat_natCast, ← List.map_take]
  unfold ecode
  rw [List.take_append_of_le_length (by rw [ecB_len]; omega), List.take_of_length_le (by rw [ecB_len]; omega)]
end
def spEncode (K : PySem.W.Frag) : Sp := fun vs H Q _ => ∃ (F : List MP) (L : List (Addr × HO)) (x : Addr) (d : HD), vs = [.ref x] ∧ d.ok ∧ hallP K x d ∈ F ∧ S F L H ∧ ∀ l H', S F ((l, .lst ((ecode d).map V.int)) :: L) H' → Q (.ref l) H'
def spRdI (K : PySem.W.Frag) : Sp := fun vs H Q _ => ∃ (F : List MP) (L L' : List (Addr × HO)) (x dx c : Addr), vs = [.ref x, .ref c] ∧ Pull (x, .ins (rdC K) dx []) L L' ∧ S F L H ∧ ∀ H', S F ((x, .ins (rdC K) dx (rfs c 0)) :: L') H' → Q .non H'
/-- the code list can be read, whatever the reader's state -/
def CodeL (K : PySem.W.Frag) (F : List MP) (L : List (Addr × HO)) (c : Addr) (xs : List Int) : Prop := ∀ (F' : List MP) (q : Addr × HO) (L2 : List (Addr × HO)) (H : Hp), (∀ f ∈ F, f ∈ F') → L.Sublist L2 → S F' (q :: L2) H → SqL K H c (xs.map V.int)
def spByte (K : PySem.W.Frag) : Sp := fun vs H Q _ => ∃ (F : List MP) (L L' : List (Addr × HO)) (x dx c : Addr) (xs : List Int) (k : Nat) (lo hi n : Int), vs = [.ref x, .int lo, .int hi] ∧ Pull (x, .ins (rdC K) dx (rfs c k)) L L' ∧ CodeL K F L' c xs ∧ xs.length ≤ 100000 ∧ xs[k]? = some n ∧ lo ≤ n ∧ n ≤ hi ∧ S F L H ∧
  ∀ H', S F ((x, .ins (rdC K) dx (rfs c ((k + 1 : Nat) : Int))) :: L') H' → Q (.int n) H'
def spMod (K : PySem.W.Frag) : Sp := fun vs H Q _ => ∃ (F : List MP) (L L' : List (Addr × HO)) (x dx c : Addr) (xs : List Int) (k : Nat) (m : Int), vs = [.ref x] ∧ Pull (x, .ins (rdC K) dx (rfs c k)) L L' ∧ CodeL K F L' c xs ∧ xs.length ≤ 100000 ∧ xs[k]? = some (m / 256) ∧ xs[k + 1]? = some (m % 256) ∧ 2 ≤ m ∧ m ≤ 10000 ∧ S F L H ∧
  ∀ H', S F ((x, .ins (rdC K) dx (rfs c ((k + 2 : Nat) : Int))) :: L') H' → Q (.int m) H'
def spEnt (K : PySem.W.Frag) : Sp := fun vs H Q _ => ∃ (F : List MP) (L L' : List (Addr × HO)) (x dx c : Addr) (xs : List Int) (k : Nat) (ns : List Int), vs = [.ref x] ∧ Pull (x, .ins (rdC K) dx (rfs c k)) L L' ∧ CodeL K F L' c xs ∧ xs.length ≤ 100000 ∧ xs[k]? = some (ns.length : Int) ∧ (∀ j n, ns[j]? = some n → xs[k + 1 + j]? = some n) ∧ 0 < ns.length ∧ ns.length ≤ 12 ∧ (∀ n ∈ ns, 0 ≤ n ∧ n ≤ 9) ∧ S F L H ∧
  ∀ q H', S (tuF K q (ns.map V.int) :: F) ((x, .ins (rdC K) dx (rfs c ((k + 1 + ns.length : Nat) : Int))) :: L') H' → Q (.ref q) H'
def spDecode (K : PySem.W.Frag) : Sp := fun vs H Q _ => ∃ (F : List MP) (L : List (Addr × HO)) (c : Addr) (d : HD), vs = [.ref c] ∧ d.ok ∧ (∀ (F' : List MP) (L2 : List (Addr × HO)) (H : Hp), (∀ f ∈ F, f ∈ F') → L.Sublist L2 → S F' L2 H → SqL K H c ((ecode d).map V.int)) ∧ S F L H ∧ ∀ x H', S (hallP K x d :: F) L H' → Q (.ref x) H'
section
variable {K : PySem.W.Frag} {H : Hp} {Q : VK} {E : XK} {F : List MP} {L L' : List (Addr × HO)} {x dx c : Addr} {d : HD} {xs ns : List Int} {k : Nat} {lo hi n m : Int}
theorem c_encode (s : S F L H) (e : hallP K x d ∈ F) (ok : d.ok) (h : ∀ l H', S F ((l, .lst ((ecode d).map V.int)) :: L) H' → Q (.ref l) H') : spEncode K [.ref x] H Q E := ⟨F, L, x, d, rfl, ok, e, s, h⟩
theorem c_rdI (s : S F L H) (p : Pull (x, .ins (rdC K) dx []) L L') (h : ∀ H', S F ((x, .ins (rdC K) dx (rfs c 0)) :: L') H' → Q .non H') : spRdI K [.ref x, .ref c] H Q E := ⟨F, L, L', x, dx, c, rfl, p, s, h⟩
theorem c_byte (s : S F L H) (p : Pull (x, .ins (rdC K) dx (rfs c (k : Nat))) L L') (hq : CodeL K F L' c xs) (hl : xs.length ≤ 100000) (e : xs[k]? = some n) (h0 : lo ≤ n) (h1 : n ≤ hi) (h : ∀ H', S F ((x, .ins (rdC K) dx (rfs c ((k + 1 : Nat) : Int))) :: L') H' → Q (.int n) H') : spByte K [.ref x, .int lo, .int hi] H Q E :=
  ⟨F, L, L', x, dx, c, xs, k, lo, hi, n, rfl, p, hq, hl, e, h0, h1, s, h⟩
theorem c_mod (s : S F L H) (p : Pull (x, .ins (rdC K) dx (rfs c (k : Nat))) L L') (hq : CodeL K F L' c xs) (hl : xs.length ≤ 100000) (e : xs[k]? = some (m / 256)) (e2 : xs[k + 1]? = some (m % 256)) (h0 : 2 ≤ m) (h1 : m ≤ 10000) (h : ∀ H', S F ((x, .ins (rdC K) dx (rfs c ((k + 2 : Nat) : Int))) :: L') H' → Q (.int m) H') : spMod K [.ref x] H Q E :=
  ⟨F, L, L', x, dx, c, xs, k, m, rfl, p, hq, hl, e, e2, h0, h1, s, h⟩
theorem c_ent (s : S F L H) (p : Pull (x, .ins (rdC K) dx (rfs c (k : Nat))) L L') (hq : CodeL K F L' c xs) (hl : xs.length ≤ 100000) (e : xs[k]? = some (ns.length : Int)) (e2 : ∀ j n, ns[j]? = some n → xs[k + 1 + j]? = some n) (h0 : 0 < ns.length) (h1 : ns.length ≤ 12) (h2 : ∀ n ∈ ns, 0 ≤ n ∧ n ≤ 9)
    (h : ∀ q H', S (tuF K q (ns.map V.int) :: F) ((x, .ins (rdC K) dx (rfs c ((k + 1 + ns.length : Nat) : Int))) :: L') H' → Q (.ref q) H') : spEnt K [.ref x] H Q E :=
  ⟨F, L, L', x, dx, c, xs, k, ns, rfl, p, hq, hl, e, e2, h0, h1, h2, s, h⟩
theorem c_decode (s : S F L H) (ok : d.ok) (hq : ∀ (F' : List MP) (L2 : List (Addr × HO)) (H : Hp), (∀ f ∈ F, f ∈ F') → L.Sublist L2 → S F' L2 H → SqL K H c ((ecode d).map V.int)) (h : ∀ x H', S (hallP K x d :: F) L H' → Q (.ref x) H') : spDecode K [.ref c] H Q E := ⟨F, L, c, d, rfl, ok, hq, s, h⟩
theorem CodeL.mono {F' : List MP} (h : CodeL K F L c xs) (hf : ∀ f ∈ F, f ∈ F') (hl : L.Sublist L') : CodeL K F' L' c xs := fun F2 q L2 H a b s => h F2 q L2 H (fun f z => a f (hf f z)) (hl.trans b) s
end
end TW
namespace TW
open PySem PySem.Spec PyProof.Rows L2 TL
/-! ### halls whose patterns are written several times over -/
def Peri (xs ys : List Int) : Prop := ∀ i, i < ys.length → ys.getD i 0 = xs.getD (i % xs.length) 0
theorem Peri.self {xs : List Int} : Peri xs xs := fun i hi => by rw [Nat.mod_eq_of_lt hi]
theorem Peri.more {xs ys : List Int} (h : Peri xs ys) : Peri xs (xs ++ ys) := fun i hi => by
  rw [List.length_append] at hi
  by_cases z : i < xs.length
  · rw [List.getD_eq_getElem?_getD, List.getElem?_append_left z, Nat.mod_eq_of_lt z, ← List.getD_eq_getElem?_getD]
  · rw [List.getD_eq_getElem?_getD, List.getElem?_append_right (by omega), ← List.getD_eq_getElem?_getD, h _ (by omega), show i % xs.length = (i - xs.length) % xs.length from (Nat.mod_eq_sub_mod (by omega))]
theorem Peri.at {xs ys : List Int} (h : Peri xs ys) (h0 : 0 < ys.length) (hd : xs.length ∣ ys.length) (t : Nat) : ys.getD (t % ys.length) 0 = xs.getD (t % xs.length) 0 := by
  rw [h _ (Nat.mod_lt _ h0), Nat.mod_mod_of_dvd _ hd]
/-- what two halls may share -/
structure Alike (d e : HD) : Prop where
  m : e.m = d.m
  lt : e.lt = d.lt
  a : ∀ t, e.a t = d.a t
  c : ∀ t, e.c t = d.c t
  p : ∃ k, e.per = (k + 1) * d.per
namespace Alike
variable {d e : HD}
theorem T (h : Alike d e) : ∀ t, e.T t = d.T t
  | 0 => rfl
  | t + 1 => by show e.T t + e.a t = d.T t + d.a t; rw [T h t, h.a]
theorem C (h : Alike d e) : ∀ t, e.C t = d.C t
  | 0 => rfl
  | t + 1 => by show min (e.T (t + 1)) (e.C t + e.c t) = min (d.T (t + 1)) (d.C t + d.c t); rw [C h t, h.c, h.T]
theorem B (h : Alike d e) : ∀ t, e.B t = d.B t
  | 0 => rfl
  | t + 1 => by show e.B t + e.c t = d.B t + d.c t; rw [B h t, h.c]
theorem Bm (k : Nat) : d.B (k * d.per) = k * d.B d.per := by
  induction k with
  | zero => rw [Nat.zero_mul]; show (0 : Int) = _; simp
  | succ k ih => rw [Nat.succ_mul, HD.B_per, ih, Int.natCast_succ, Int.add_mul, Int.one_mul]
theorem gr0 (h : Alike d e) : e.gr = 0 ↔ d.gr = 0 := by
  obtain ⟨k, hk⟩ := h.p
  have e1 : e.T e.per = ((k + 1 : Nat) : Int) * d.T d.per := by
    have := HD.T_mul (d := d) 0 (k + 1)
    rw [Nat.zero_add] at this
    rw [hk, h.T, this]
    show (0 : Int) + _ = _
    rw [Int.zero_add]
  have e2 : e.B e.per = ((k + 1 : Nat) : Int) * d.B d.per := by rw [hk, h.B, Bm]
  unfold HD.gr
  rw [e1, e2, ← Int.mul_sub]
  generalize d.T d.per - d.B d.per = x
  constructor
  · intro z
    by_cases hx : 0 < x
    · have : 0 < ((k + 1 : Nat) : Int) * x := Int.mul_pos (by omega) hx
      omega
    · omega
  · intro z
    have hx : x ≤ 0 := by omega
    have : ((k + 1 : Nat) : Int) * x ≤ 0 := Int.mul_nonpos_of_nonneg_of_nonpos (by omega) hx
    omega
theorem grp (h : Alike d e) : 0 < e.gr ↔ 0 < d.gr := by
  have := h.gr0
  have a : 0 ≤ e.gr := by unfold HD.gr; omega
  have b : 0 ≤ d.gr := by unfold HD.gr; omega
  omega
theorem O (h : Alike d e) (t : Nat) : e.O t = d.O t := by unfold HD.O; rw [h.T, h.C, h.lt]
theorem W (h : Alike d e) (t : Nat) : e.W t = d.W t := by unfold HD.W; rw [h.T, h.C]
theorem shown (h : Alike d e) (t : Int) : Shown e t = Shown d t := by unfold Shown; rw [h.C, h.m]
theorem most (h : Alike d e) {m : Int} : e.IsMost m ↔ d.IsMost m := by
  unfold HD.IsMost
  simp only [h.O]
theorem wait (h : Alike d e) {n w : Int} : e.IsWait n w ↔ d.IsWait n w := by
  unfold HD.IsWait
  simp only [h.T, h.C]
theorem long (h : Alike d e) {w : Int} : e.IsLong w ↔ d.IsLong w := by
  unfold HD.IsLong
  simp only [h.wait]
theorem clash (h : Alike d e) (t : Nat) : Clash e t ↔ Clash d t := by unfold Clash; rw [h.m, h.O]
theorem ltA (h : Alike d e) (k : Int) : Alike { d with lt := k } { e with lt := k } := ⟨h.m, rfl, h.a, h.c, h.p⟩
theorem clear (h : Alike d e) (k : Int) : ClearAt e k ↔ ClearAt d k := by
  have h2 := h.ltA k
  constructor
  · rintro ⟨a, m, b, c⟩
    exact ⟨h.gr0.mp a, m, h2.most.mp b, by rw [← h.m]; exact c⟩
  · rintro ⟨a, m, b, c⟩
    exact ⟨h.gr0.mpr a, m, h2.most.mpr b, by rw [h.m]; exact c⟩
theorem last (h : Alike d e) {v : V} (l : Last (ClearAt e) 100 v) : Last (ClearAt d) 100 v := by
  rcases l with ⟨a, b⟩ | ⟨k, a, b, c, f⟩
  · exact .inl ⟨a, fun j hj z => b j hj ((h.clear _).mpr z)⟩
  · exact .inr ⟨k, a, b, (h.clear _).mp c, fun j h1 h2 z => f j h1 h2 ((h.clear _).mpr z)⟩
theorem mis (h : Alike d e) (ok : d.ok) (ok2 : e.ok) (t : Nat) : Mis e t ↔ Mis d t := by
  rw [mis_iff ok, mis_iff ok2]
  simp only [h.T, h.C, h.m]
theorem first (h : Alike d e) (ok : d.ok) (ok2 : e.ok) {v : V} (l : First (Mis e) v) : First (Mis d) v := by
  rcases l with ⟨a, b⟩ | ⟨t, a, b, c⟩
  · exact .inl ⟨a, fun t z => b t ((h.mis ok ok2 t).mpr z)⟩
  · exact .inr ⟨t, a, (h.mis ok ok2 t).mp b, fun s hs z => c s hs ((h.mis ok ok2 s).mpr z)⟩
theorem tz (h : Alike d e) (ok : d.ok) : e.T e.per = 0 ↔ d.T d.per = 0 := by
  obtain ⟨k, hk⟩ := h.p
  have := HD.T_mul (d := d) 0 (k + 1)
  rw [Nat.zero_add] at this
  rw [hk, h.T, this]
  show (0 : Int) + _ = 0 ↔ _
  rw [Int.zero_add]
  constructor
  · intro z
    rcases Int.mul_eq_zero.mp z with z | z
    · omega
    · exact z
  · intro z; rw [z, Int.mul_zero]
theorem evs (h : Alike d e) (s n : Nat) : e.evs s n = d.evs s n := by
  induction n with
  | zero => rfl
  | succ n ih => rw [HD.evs_succ, HD.evs_succ, ih]; simp only [h.T, h.C]
end Alike
theorem CallAt.uniq {d e : HD} (h : Alike d e) (ok : d.ok) (ok2 : e.ok) {n : Int} {v w : V} (a : CallAt d n v) (b : CallAt e n w) : w = v := by
  rcases a with ⟨rfl, a1, a2⟩ | ⟨u, rfl, a1, a2⟩
  · rcases b with ⟨rfl, _, _⟩ | ⟨t, rfl, b1, b2⟩
    · rfl
    · have := HD.C_gain0 ok a2 (t + 1)
      rw [h.C] at b2
      omega
  · rcases b with ⟨rfl, b1, b2⟩ | ⟨t, rfl, b1, b2⟩
    · have := HD.C_gain0 ok2 b2 (u + 1)
      rw [h.C] at this
      omega
    · rw [h.C] at b1 b2
      rw [step_uniq (g := d.C) (fun t => HD.C_mono ok (Nat.le_succ t)) a1 a2 b1 b2]
namespace HD
/-- takes twice, calls four times over -/
def qd (d : HD) : HD := { d with tk := d.tk ++ d.tk, cl := d.cl ++ (d.cl ++ (d.cl ++ d.cl)) }
theorem ok_qd {d : HD} (h : d.ok) (h1 : d.tk.length ≤ 3) (h2 : d.cl.length ≤ 3) : d.qd.ok := by
  have t0 := h.t0
  have c0 := h.c0
  refine ⟨h.m0, h.m1, ?_, ?_, ?_, ?_, ?_, ?_, h.l0, h.l1⟩
  · show 0 < (d.tk ++ d.tk).length
    rw [List.length_append]; omega
  · show (d.tk ++ d.tk).length ≤ 12
    rw [List.length_append]; omega
  · intro x hx
    rcases List.mem_append.mp hx with hx | hx <;> exact h.t2 x hx
  · show 0 < (d.cl ++ (d.cl ++ (d.cl ++ d.cl))).length
    simp only [List.length_append]; omega
  · show (d.cl ++ (d.cl ++ (d.cl ++ d.cl))).length ≤ 12
    simp only [List.length_append]; omega
  · intro x hx
    have hx : x ∈ d.cl ++ (d.cl ++ (d.cl ++ d.cl)) := hx
    simp only [List.mem_append, or_self] at hx
    exact h.c2 x hx
theorem qd_tl {d : HD} : d.qd.tk.length = 2 * d.tk.length := by show (d.tk ++ d.tk).length = _; rw [List.length_append]; omega
theorem qd_cl {d : HD} : d.qd.cl.length = 4 * d.cl.length := by show (d.cl ++ (d.cl ++ (d.cl ++ d.cl))).length = _; simp only [List.length_append]; omega
theorem qd_alike {d : HD} (h : d.ok) : Alike d d.qd := by
  have t0 := h.t0
  have c0 := h.c0
  refine ⟨rfl, rfl, fun t => ?_, fun t => ?_, ?_⟩
  · exact Peri.at (xs := d.tk) (ys := d.tk ++ d.tk) Peri.self.more (by rw [List.length_append]; omega) ⟨2, by rw [List.length_append]; omega⟩ t
  · exact Peri.at (xs := d.cl) (ys := d.cl ++ (d.cl ++ (d.cl ++ d.cl))) Peri.self.more.more.more (by simp only [List.length_append]; omega) ⟨4, by simp only [List.length_append]; omega⟩ t
  · have hd : d.per ∣ d.qd.per := by
      unfold per
      rw [qd_tl, qd_cl]
      exact Nat.lcm_dvd (Nat.dvd_trans ⟨2, by omega⟩ (Nat.dvd_lcm_left _ _)) (Nat.dvd_trans ⟨4, by omega⟩ (Nat.dvd_lcm_right _ _))
    obtain ⟨k, hk⟩ := hd
    cases k with
    | zero =>
      have : 0 < d.qd.per := Nat.lcm_pos (by rw [qd_tl]; omega) (by rw [qd_cl]; omega)
      rw [Nat.mul_zero] at hk; omega
    | succ k => exact ⟨k, by rw [hk, Nat.mul_comm]⟩
end HD
/-! equal data, whatever it is -/
section
variable {K : PySem.W.Frag} {H : Hp} {Q : VK} {E : XK} {p q x y : Addr} {xs ys : List V} {F : List MP} {L : List (Addr × HO)} {u v : V} {d e : HD} {dd : PyData}
theorem x_neDp (h1 : Dp K H u dd) (h2 : Dp K H v dd) (hs : SeqAt.shaped dd = true) (k : Q (.bl false) H) : rNeA K u v H Q :=
  .inr ⟨dd, dd, h1, h2, hs, hs, by rw [SeqAt.eqv_refl dd (SeqAt.canLay_of_shaped hs)]; exact k⟩
theorem x_repT4 (s : S F L H) (e : Ent F (tuF K p xs)) (hl : 0 < xs.length) (h2 : xs.length ≤ 1000) (k : ∀ r H1, S (tuF K r (xs ++ (xs ++ (xs ++ xs))) :: F) L H1 → Q (.ref r) H1) : rMulA K (.ref p) (.int 4) H Q := by
  refine .inr (.inr ⟨p, 4, xs, rfl, rfl, s.ent e, (fun z => by rw [z] at hl; cases hl), by decide, by decide, h2, fun r hr => ?_⟩)
  have e2 : (List.replicate (Int.toNat 4) xs).flatten = xs ++ (xs ++ (xs ++ xs)) := by
    show (List.replicate 4 xs).flatten = _
    simp
  rw [e2]
  exact k r _ (((s.newF hr).put_ (tuF K r (xs ++ (xs ++ (xs ++ xs)))) (Ent.tup List.mem_cons_self)).sub ((List.sublist_cons_self _ _).cons_cons _) (List.Sublist.refl _))
theorem MostV.ni (h : MostV d v) : NI v := h.1
theorem MostV.to (a : Alike d e) (ok : d.ok) (ok2 : e.ok) (h : MostV d u) (h2 : MostV e v) : v = u := by
  rcases h.2 ok with ⟨g, rfl⟩ | ⟨g, m, hm, rfl⟩ <;> rcases h2.2 ok2 with ⟨g2, rfl⟩ | ⟨g2, m2, hm2, rfl⟩
  · rfl
  · have := a.gr0.mp g2; omega
  · have := a.gr0.mpr g; omega
  · rw [HD.most_uniq (a.most.mp hm2) hm]
theorem c_mostV (s : S F L H) (e : hallP K x d ∈ F) (ok : d.ok) (k : ∀ v, MostV d v → ∀ H', S F L H' → Q v H') : spMost K gMost [.ref x] H Q E :=
  c_mostM s e ok (fun g => k _ ⟨.inl rfl, fun _ => .inl ⟨g, rfl⟩⟩) fun m g hm => k _ ⟨.inr ⟨m, rfl⟩, fun _ => .inr ⟨g, m, hm, rfl⟩⟩
def LongV (d : HD) (v : V) : Prop := (0 < d.gr ∧ v = .non) ∨ (d.gr = 0 ∧ ∃ m, d.IsLong m ∧ v = .int m)
theorem LongV.ni (h : LongV d v) : NI v := by
  rcases h with ⟨_, rfl⟩ | ⟨_, m, _, rfl⟩
  · exact .inl rfl
  · exact .inr ⟨_, rfl⟩
theorem LongV.to (a : Alike d e) (h : LongV d u) (h2 : LongV e v) : v = u := by
  rcases h with ⟨g, rfl⟩ | ⟨g, m, hm, rfl⟩ <;> rcases h2 with ⟨g2, rfl⟩ | ⟨g2, m2, hm2, rfl⟩
  · rfl
  · have := a.gr0.mp g2; omega
  · have := a.gr0.mpr g; omega
  · rw [HD.long_uniq (a.long.mp hm2) hm]
theorem c_longV (s : S F L H) (e : hallP K x d ∈ F) (ok : d.ok) (k : ∀ v, LongV d v → ∀ H', S F L H' → Q v H') : spLong K [.ref x] H Q E :=
  c_long s e ok (fun g => k _ (.inl ⟨g, rfl⟩)) fun m g hm => k _ (.inr ⟨g, m, hm, rfl⟩)
theorem First.ni {P : Nat → Prop} (h : First P v) : NI v := by
  rcases h with ⟨rfl, _⟩ | ⟨t, rfl, _⟩
  · exact .inl rfl
  · exact .inr ⟨_, rfl⟩
theorem Last.ni {P : Int → Prop} {n : Nat} (h : Last P n v) : NI v := by
  rcases h with ⟨rfl, _⟩ | ⟨t, _, rfl, _⟩
  · exact .inl rfl
  · exact .inr ⟨_, rfl⟩
theorem x_neSame (h : NI u) (e : v = u) (k : Q (.bl false) H) : rNeA K u v H Q := by
  subst e
  exact .inl ⟨scal_ni h h, by rw [decide_eq_true rfl]; exact k⟩
theorem x_eqSame (h : NI u) (e : v = u) (k : Q (.bl true) H) : rEqA K u v H Q := by
  subst e
  exact .inl ⟨scal_ni h h, by rw [decide_eq_true rfl]; exact k⟩
/-! lists of events compared -/
def evD : List (Str × Int × Int) → List PyData := List.map fun e => .tuple [.str e.1, .int e.2.1, .int e.2.2]
theorem ev_dp {E : Hp} {vs : List V} {es : List (Str × Int × Int)} (h : Ev3 K E vs es) : DpAll K E vs (evD es) := by
  induction h with
  | nil => exact .nil
  | cons a _ ih => exact .cons (.tup a (.cons (.str _) (.cons (.int _) (.cons (.int _) .nil)))) ih
theorem ev_can : ∀ {es : List (Str × Int × Int)}, (∀ e ∈ es, PyData.strOk e.1 = true) → PyData.canLayAll0 (evD es) = true
  | [], _ => rfl
  | e :: es, h => by
    show PyData.canLayAll0 (_ :: evD es) = true
    simp only [PyData.canLayAll0, PyData.canLay0, h e List.mem_cons_self, ev_can fun e he => h e (List.mem_cons_of_mem _ he)]
    rfl
theorem ev_dep : ∀ {es : List (Str × Int × Int)}, PyData.depthAll (evD es) ≤ 1
  | [] => Nat.zero_le _
  | e :: es => by
    have := ev_dep (es := es)
    show PyData.depthAll (_ :: evD es) ≤ 1
    simp only [PyData.depthAll, PyData.depth]
    omega
theorem evs_ok {d : HD} : ∀ (n : Nat) {s : Nat}, ∀ e ∈ d.evs s n, PyData.strOk e.1 = true
  | 0, _, e, h => by cases h
  | n + 1, s, e, h => by
    have h : e ∈ d.evs s n ++ (d.evA (s + n) ++ d.evC (s + n)) := h
    rcases List.mem_append.mp h with h | h
    · exact evs_ok n e h
    · rcases List.mem_append.mp h with h | h
      · obtain ⟨i, _, rfl⟩ := List.mem_map.mp h
        exact (by decide +kernel : PyData.strOk (Str.ofString "take") = true)
      · obtain ⟨i, _, rfl⟩ := List.mem_map.mp h
        exact (by decide +kernel : PyData.strOk (Str.ofString "call") = true)
theorem ev_sh {es : List (Str × Int × Int)} (h : ∀ e ∈ es, PyData.strOk e.1 = true) : SeqAt.shaped (.list (evD es)) = true := by
  unfold SeqAt.shaped
  rw [Bool.and_eq_true]
  refine ⟨ev_can h, decide_eq_true ?_⟩
  have := ev_dep (es := es)
  show PyData.depth (.list (evD es)) ≤ 64
  simp only [PyData.depth]
  omega
theorem x_neEv {es : List (Str × Int × Int)} (h1 : SqL K H p xs) (h2 : SqL K H q ys) (e1 : Ev3 K H xs es) (e2 : Ev3 K H ys es) (hs : ∀ e ∈ es, PyData.strOk e.1 = true) (k : Q (.bl false) H) : rNeA K (.ref p) (.ref q) H Q :=
  x_neDp (.lst h1 (ev_dp e1)) (.lst h2 (ev_dp e2)) (ev_sh hs) k
end
/-! what is read back tells the hall -/
theorem num_inj {i j : Int} (hi : 0 ≤ i) (hj : 0 ≤ j) (h : num i = num j) : i = j := by
  have h2 := congrArg tl h
  rw [num_tl hi, num_tl hj] at h2
  have := numL_inj h2
  omega
theorem nums_inj : ∀ {xs ys : List Int}, (∀ x ∈ xs, 0 ≤ x) → (∀ x ∈ ys, 0 ≤ x) → xs.map num = ys.map num → xs = ys
  | [], [], _, _, _ => rfl
  | [], y :: ys, _, _, h => by cases h
  | x :: xs, [], _, _, h => by cases h
  | x :: xs, y :: ys, h1, h2, h => by
    rw [List.map_cons, List.map_cons] at h
    injection h with a b
    rw [num_inj (h1 x List.mem_cons_self) (h2 y List.mem_cons_self) a, nums_inj (fun z hz => h1 z (List.mem_cons_of_mem _ hz)) (fun z hz => h2 z (List.mem_cons_of_mem _ hz)) b]
theorem rowT_inj {w : Str} {xs ys : List Int} (hw : 32 ∉ tl w) (h1 : ∀ x ∈ xs, 0 ≤ x) (h2 : ∀ x ∈ ys, 0 ≤ x) (h : rowT w xs = rowT w ys) : xs = ys := by
  have e := congrArg (fun s => Txt.split s wBl) h
  simp only [split_row hw h1, split_row hw h2] at e
  injection e with _ e
  exact nums_inj h1 h2 e
theorem htext_inj {d e : HD} (h1 : d.ok) (h2 : e.ok) (h : htext d = htext e) : d = e := by
  have z := congrArg (fun s => Txt.split s wNl) h
  simp only [split_htext h1, split_htext h2] at z
  obtain ⟨m0, m1, t0, t1, t2, c0, c1, c2, l0, l1⟩ := h1
  obtain ⟨m0', m1', t0', t1', t2', c0', c1', c2', l0', l1'⟩ := h2
  unfold rowsT at z
  injection z with z1 z
  injection z with z2 z
  injection z with z3 z
  injection z with z4 z
  have e1 := rowT_inj (by decide +kernel) (fun x hx => by rw [List.mem_singleton.mp hx]; omega) (fun x hx => by rw [List.mem_singleton.mp hx]; omega) z1
  have e2 := rowT_inj (by decide +kernel) (fun x hx => (t2 x hx).1) (fun x hx => (t2' x hx).1) z2
  have e3 := rowT_inj (by decide +kernel) (fun x hx => (c2 x hx).1) (fun x hx => (c2' x hx).1) z3
  have e4 := rowT_inj (by decide +kernel) (fun x hx => by rw [List.mem_singleton.mp hx]; omega) (fun x hx => by rw [List.mem_singleton.mp hx]; omega) z4
  cases d; cases e
  simp only [List.cons.injEq, and_true] at e1 e2 e3 e4
  subst e1 e2 e3 e4
  rfl
theorem ecode_inj {d e : HD} (h : ecode d = ecode e) : d = e := by
  rw [ecode_eq, ecode_eq] at h
  injection h with _ h
  injection h with h1 h
  injection h with h2 h
  injection h with h3 h
  have h3 : d.tk.length = e.tk.length := by omega
  obtain ⟨e1, h⟩ := List.append_inj h h3
  injection h with h4 h
  have h4 : d.cl.length = e.cl.length := by omega
  obtain ⟨e2, h⟩ := List.append_inj h h4
  injection h with h5 h
  cases d; cases e
  simp only at e1 e2 h5 h1 h2
  subst e1 e2 h5
  congr 1
  omega
/-! parts compared -/
def pdH (h : HD) : PyData := .tuple [.int h.m, .tuple (h.tk.map PyData.int), .tuple (h.cl.map PyData.int), .int h.lt]
theorem pd_sh {h : HD} : SeqAt.shaped (pdH h) = true := by
  simp [pdH, SeqAt.shaped, PyData.canLay0, PyData.canLayAll0, PyData.depth, PyData.depthAll, can_ints, dep_ints]
theorem pd_eq {h g : HD} : PyData.eqv (pdH h) (pdH g) = true ↔ h = g := by
  cases h; cases g
  simp [pdH, PyData.eqv, PyData.eqvAll, eqv_ints]
section
variable {K : PySem.W.Frag} {H : Hp} {Q : VK} {p q pt pc : Addr} {F : List MP} {L : List (Addr × HO)} {h g : HD} {b : Bool}
theorem parts_dp (s : S F L H) (m : partsP K p h ∈ F) : Dp K H (.ref p) (pdH h) := by
  obtain ⟨pt, pc, h1, h2, h3⟩ := s.phi m
  exact .tup h1 (.cons (.int _) (.cons (.tup h2 (dp_ints _)) (.cons (.tup h3 (dp_ints _)) (.cons (.int _) .nil))))
theorem tup_dp (h1 : SqT K H p [.int h.m, .ref pt, .ref pc, .int h.lt]) (h2 : SqT K H pt (h.tk.map V.int)) (h3 : SqT K H pc (h.cl.map V.int)) : Dp K H (.ref p) (pdH h) :=
  .tup h1 (.cons (.int _) (.cons (.tup h2 (dp_ints _)) (.cons (.tup h3 (dp_ints _)) (.cons (.int _) .nil))))
theorem x_eqParts (s : S F L H) (m1 : partsP K p h ∈ F) (m2 : partsP K q g ∈ F) (k : ∀ b : Bool, (b = true ↔ h = g) → Q (.bl b) H) : rEqA K (.ref p) (.ref q) H Q :=
  .inr ⟨pdH h, pdH g, parts_dp s m1, parts_dp s m2, pd_sh, pd_sh, k _ pd_eq⟩
end
theorem eq_bool {c : Prop} [Decidable c] {b : Bool} {p : Prop} (h1 : b = true ↔ p) (h2 : c ↔ p) : decide c = b := by
  cases b
  · exact decide_eq_false fun z => Bool.false_ne_true (h1.mpr (h2.mp z))
  · exact decide_eq_true (h2.mpr (h1.mp rfl))
theorem atI_m2 {xs : List V} {u v : V} : atI (xs ++ [u, v]) (-2) = some u := by
  unfold atI ixN
  rw [if_neg (by decide), List.length_append, show [u, v].length = 2 from rfl, if_pos (by omega)]
  show (xs ++ [u, v])[(((xs.length + 2 : Nat) : Int) + -2).toNat]? = some u
  rw [show (((xs.length + 2 : Nat) : Int) + -2).toNat = xs.length by omega, List.getElem?_append_right (Nat.le_refl _), Nat.sub_self]
  rfl
theorem ec_m2 {h : HD} : atI ((ecode h).map V.int) (-2) = some (.int h.lt) := by
  have e : (ecode h).map V.int = (84 :: h.m / 256 :: h.m % 256 :: (h.tk.length : Int) :: (h.tk ++ (h.cl.length : Int) :: h.cl)).map V.int ++ [V.int h.lt, V.int ((ecB h).sum % 256)] := by
    rw [ecode_eq]
    simp
  rw [e]
  exact atI_m2
section
variable {K : PySem.W.Frag} {H : Hp} {Q : VK} {p q : Addr} {F : List MP} {L : List (Addr × HO)} {u v : V} {d e : HD} {t : Int}
theorem sh_i3 {a b c : Int} : SeqAt.shaped (.tuple [.int a, .int b, .int c]) = true := by simp [SeqAt.shaped, PyData.canLay0, PyData.canLayAll0, PyData.depth, PyData.depthAll]
theorem x_neCls (s : S F L H) (m1 : clsP K u d ∈ F) (m2 : clsP K v e ∈ F) (a : Alike d e) (k : Q (.bl false) H) : rNeA K u v H Q := by
  rcases s.phi m1 with ⟨rfl, h1⟩ | ⟨p, t, rfl, h1, h2, h3⟩ <;> rcases s.phi m2 with ⟨rfl, g1⟩ | ⟨q, t', rfl, g1, g2, g3⟩
  · exact x_neSame (.inl rfl) rfl k
  · exact absurd ((a.clash t').mp g1) (h1 t')
  · exact absurd ((a.clash t).mpr h1) (g1 t)
  · have : t' = t := by
      rcases Nat.lt_trichotomy t t' with z | z | z
      · exact absurd ((a.clash t).mpr h1) (g2 t z)
      · exact z.symm
      · exact absurd ((a.clash t').mp g1) (h2 t' z)
    subst this
    rw [a.C, a.lt, a.m] at g3
    exact x_neDp (.tup h3 (.cons (.int _) (.cons (.int _) (.cons (.int _) .nil)))) (.tup g3 (.cons (.int _) (.cons (.int _) (.cons (.int _) .nil)))) sh_i3 k
theorem x_eqTimes (h1 : SqT K H p [.int t, v]) (h2 : SqT K H q [.int t, v]) (hv : NI v) (k : Q (.bl true) H) : rEqA K (.ref p) (.ref q) H Q := by
  obtain ⟨dv, hd, hs⟩ : ∃ dv, Dp K H v dv ∧ SeqAt.shaped (.tuple [.int t, dv]) = true := by
    rcases hv with rfl | ⟨i, rfl⟩
    · exact ⟨_, .non, by simp [SeqAt.shaped, PyData.canLay0, PyData.canLayAll0, PyData.depth, PyData.depthAll]⟩
    · exact ⟨_, .int i, by simp [SeqAt.shaped, PyData.canLay0, PyData.canLayAll0, PyData.depth, PyData.depthAll]⟩
  exact .inr ⟨_, _, .tup h1 (.cons (.int _) (.cons hd .nil)), .tup h2 (.cons (.int _) (.cons hd .nil)), hs, hs, by rw [SeqAt.eqv_refl _ (SeqAt.canLay_of_shaped hs)]; exact k⟩
theorem CallAt.ni {n : Int} (h : CallAt d n v) : NI v := by
  rcases h with ⟨rfl, _⟩ | ⟨u, rfl, _⟩
  · exact .inl rfl
  · exact .inr ⟨_, rfl⟩
theorem x_eqBt {b c : Bool} (e : b = c) (k : Q (.bl true) H) : rEqA K (.bl b) (.bl c) H Q := by
  subst e
  exact x_eqBs k
end
end TW
namespace TW
open PySem PySem.Spec PyProof.Rows L2
/-! ### errors with fields -/
def oexL (K : PySem.W.Frag) (C : Addr) : Bool := match K.lookup C with
  | some ⟨.type "type", _, .cls cd, sl⟩ => (match cd.mro, sl.toList with
    | .ref C' :: bm, [_, _, _, _, some (.builtin n), _] => C' == C && (n == "ValueError.__new__" && (!cd.hasDel && (cd.hasDict && PySem.HandSPX.refsVE bm)))
    | _, _ => false)
  | _ => false
def oexB (K : PySem.W.Frag) (C : Addr) : Bool := oexL K C && (He.eqO (PySem.W.findIn K (.ref C) "__setattr__") (some (some (.builtin "object.__setattr__"))) &&
  (decide (PySem.W.subIn K (.ref C) (.type "BaseException") = some true) && (decide (PySem.W.typeIn K (.ref C) = some (.type "type")) && PySem.W.keepIn K (.ref C))))
theorem oexL_ok {K : PySem.W.Frag} {C : Addr} (q : oexL K C = true) : ∃ nm q N bs bm sn sub ab col dd k0 k1 k2 k3 k5, K.lookup C = some (excClassObj nm q C N bs bm true sn sub ab col dd k0 k1 k2 k3 k5 "ValueError.__new__") ∧ PySem.HandSPX.refsVE bm = true := by
  unfold oexL at q
  split at q
  · rename_i dd cd sl ho
    split at q
    · rename_i C' bm k0 k1 k2 k3 n k5 hm hs
      simp only [Bool.and_eq_true, beq_iff_eq, Bool.not_eq_true'] at q
      obtain ⟨rfl, rfl, hdel, hd, ht⟩ := q
      obtain ⟨nm, bs, mro, ns, qn, hd', sn, sub, ab, col, del⟩ := cd
      dsimp only at hm hdel hd
      subst hm hdel hd
      have hsl : sl = #[k0, k1, k2, k3, some (.builtin "ValueError.__new__"), k5] := by
        obtain ⟨l⟩ := sl
        simp only at hs
        rw [hs]
      subst hsl
      exact ⟨nm, qn, ns, bs, bm, sn, sub, ab, col, dd, k0, k1, k2, k3, k5, ho, ht⟩
    · cases q
  · cases q
theorem oexB_ok {K : PySem.W.Frag} {C : Addr} (h : oexB K C = true) : OexC K C := by
  obtain ⟨h1, h⟩ := He.ba h
  obtain ⟨h2, h⟩ := He.ba h
  obtain ⟨h3, h⟩ := He.ba h
  obtain ⟨h4, h5⟩ := He.ba h
  exact ⟨oexL_ok h1, He.eqO_ok h2, of_decide_eq_true h3, of_decide_eq_true h4, h5⟩
/-- an error class with fields fs, its __init__ at fI -/
structure OxK (K : PySem.W.Frag) (C fI : Addr) (fs : List Str) : Prop where
  o : OexC K C
  i : PySem.W.findIn K (.ref C) "__init__" = some (some (.ref fI))
  t : PySem.W.typeIn K (.ref fI) = some (.type "function")
  n : ∀ f ∈ fs, PySem.W.findIn K (.ref C) f = some none
  x : XfC K C
def oxB (K : PySem.W.Frag) (C fI : Addr) (fs : List Str) : Bool := oexB K C && (decide (PySem.W.findIn K (.ref C) "__init__" = some (some (.ref fI))) && (decide (PySem.W.typeIn K (.ref fI) = some (.type "function")) &&
  (fs.all (fun f => decide (PySem.W.findIn K (.ref C) f = some none)) && xfB K C)))
theorem oxB_ok {K : PySem.W.Frag} {C fI : Addr} {fs : List Str} (h : oxB K C fI fs = true) : OxK K C fI fs := by
  obtain ⟨h1, h⟩ := He.ba h
  obtain ⟨h2, h⟩ := He.ba h
  obtain ⟨h3, h⟩ := He.ba h
  obtain ⟨h4, h5⟩ := He.ba h
  exact ⟨oexB_ok h1, of_decide_eq_true h2, of_decide_eq_true h3, fun f hf => of_decide_eq_true (List.all_eq_true.mp h4 f hf), xfB_ok h5⟩
/-- the base class whose __init__ is called -/
structure HbK (K : PySem.W.Frag) (B : Addr) : Prop where
  r : ClX.CRead K B (.type "type")
  c : PySem.W.findCls K (.ref B) (.type "type") "__init__" = some (.val (.builtin "ValueError.__init__"))
def hbB (K : PySem.W.Frag) (B : Addr) : Bool := readB K B && (match PySem.W.findCls K (.ref B) (.type "type") "__init__" with
  | some (.val (.builtin n)) => n == "ValueError.__init__"
  | _ => false)
theorem hbB_ok {K : PySem.W.Frag} {B : Addr} (h : hbB K B = true) : HbK K B := by
  obtain ⟨h1, h2⟩ := He.ba h
  refine ⟨readB_ok h1, ?_⟩
  split at h2
  · rename_i n e
    rw [beq_iff_eq.mp h2] at e
    exact e
  · cases h2
section
variable {X : Cx} {W : WX} {B C fI : Addr} {k : Nat} {x m b : Str} {j : Nat} {ps : List Str} {sp : Sp} {p p1 p2 pos pos2 : Pos} {e : Expr} {es : List Expr} {ta : TA} {fd : FuncData} {fs : List Str}
/-- B.__init__(self, ..), B a class over ValueError -/
theorem d_heinit (K : PySem.W.Frag) {pl : Sem Bool} (T : HbK X.K B) (hm : X.mg b = some (.ref B)) (ha : PA X (e :: es) ta) (hg : Gl X b := by rfl) (hdb : (b == ("__debug__" : Str)) = false := by decide)
    (hc : eval (.Call (.Attribute (.Name b p1) "__init__" p2) (e :: es) [] pos) X.env = (do
      let ov ← eval (.Name b p1) X.env
      standAt p2.atName
      let (f, first) ← holding [ov] (getMethod ov "__init__" pl)
      callWith pos f first (backTo pos (starEach (e :: es) X.env)) (backToKw pos (keywordEach [] X.env))) := by rfl)
    (he : starEach (e :: es) X.env = (false, eval e X.env) :: starEach es X.env := by rfl) (hpl : (backTo pos (starEach es X.env)).any (·.1) = false := by rfl)
    (hK : X.K = K := by rfl) : PE X (.Call (.Attribute (.Name b p1) "__init__" p2) (e :: es) [] pos) (tVeI K ta) := by
  subst hK
  refine ⟨fun pins s σ H Q I h => ?_⟩
  refine PySem.W.methodCall_KW (pl := pl) (ld_glob I hg hm ?_ hdb) hc
  refine PySem.W.method_cls I.kIn T.r.ga ?_
  refine PySem.W.cls_value I.kIn T.r.rd T.c rfl ?_
  show wpAny _ _ (callWith pos (Value.builtin "ValueError.__init__") [] (backTo pos (starEach (e :: es) X.env)) []) _ _ _
  refine PyProof.Rows.callWith_method1 (thn (ha.run pos pins _ σ H _ (I.tok _) h) fun us s1 ⟨vs, H1, I1, r1, a, C, ws, ev, hl, T, ea, q⟩ => ?_) he hpl
  subst ev
  cases r1 with
  | @cons _ u0 _ ur ra rw' =>
    obtain rfl : u0 = Value.ref a := ra
    have hlen : ur.length ≤ sizeLine := by
      rw [← Paired.length rw', sizeLine_eq]
      omega
    exact oinit_ok T I1 ea hlen fun s' J => ⟨.non, H1, J, rfl, q⟩
theorem d_ost (K : PySem.W.Frag) {o e : Expr} {to te : TE} {f : Str} {p' pos : Pos} (ho : PE X o to) (he : PE X e te) (hs : swapsWith e (some (.Attribute o f p')) pos.line X.env = pure false := by rfl) (hK : X.K = K := by rfl) : PS X (.Assign [.Attribute o f p'] e pos) (tOst K f to te) := by
  subst hK
  exact ps_ost ho he hs
end
/-- an error's __init__: one field, two fields -/
def spX1 (C : Addr) (f : Str) : Sp := fun vs H Q _ => ∃ (a : Addr) (y : V), vs = [.ref a, y] ∧ H a = some (exo a C none) ∧ ∀ dx, H dx = none → dx ≠ a → Q .non (upd (upd H dx (exd dx [(f, y)])) a (exo a C (some dx)))
def spX2 (C : Addr) (f g : Str) : Sp := fun vs H Q _ => ∃ (a : Addr) (y z : V), vs = [.ref a, y, z] ∧ H a = some (exo a C none) ∧ ∀ dx, H dx = none → dx ≠ a → Q .non (upd (upd (upd H dx (exd dx [(f, y)])) a (exo a C (some dx))) dx (exd dx [(g, z), (f, y)]))
theorem xd_one {H : Hp} {a d C : Addr} {fs : List (Str × V)} (h : H a = none) (ne : d ≠ a) : upd (del (upd (upd (upd H a (exo a C none)) d (exd d fs)) a (exo a C (some d))) a) d (.xd fs) = upd H d (.xd fs) := by
  funext b
  by_cases hb : b = d
  · rw [hb, upd_same, upd_same]
  · rw [upd_ne hb, upd_ne hb]
    by_cases ha : b = a
    · rw [ha, del_same, h]
    · rw [del_ne ha, upd_ne ha, upd_ne hb, upd_ne ha]
theorem xd_two {H : Hp} {a d C : Addr} {fs gs : List (Str × V)} (h : H a = none) (ne : d ≠ a) : upd (del (upd (upd (upd (upd H a (exo a C none)) d (exd d fs)) a (exo a C (some d))) d (exd d gs)) a) d (.xd gs) = upd H d (.xd gs) := by
  funext b
  by_cases hb : b = d
  · rw [hb, upd_same, upd_same]
  · rw [upd_ne hb, upd_ne hb]
    by_cases ha : b = a
    · rw [ha, del_same, h]
    · rw [del_ne ha, upd_ne hb, upd_ne ha, upd_ne hb, upd_ne ha]
/-- what raising asks -/
def rMk (C : Addr) (sp : Sp) (W : WX) (σ : Sl) (vs : List V) (H1 : Hp) : Prop := vs.length ≤ 1000 ∧ ∀ a, H1 a = none → sp (.ref a :: (vs ++ [])) (upd H1 a (exo a C none))
  (fun v H2 => v = .non ∧ ∃ (d : Addr) (fs : List (Str × V)), H2 a = some (exo a C (some d)) ∧ H2 d = some (exd d fs) ∧ H1 d = none ∧ W (.ref C) (some d) σ (upd (del H2 a) d (.xd fs))) (fun _ _ _ => False)
def tRaiseO (C : Addr) (sp : Sp) (ta : TA) (W : WX) : TS := fun _ σ H => ta σ H fun vs H1 => rMk C sp W σ vs H1
structure Dx (P : Program) (w : World) (K : PySem.W.Frag) (mg : Str → Option Value) (base : Heap) (k : Nat) (C fI : Addr) (fs ps : List Str) (sp : Sp) : Prop where
  ex : ∃ fd, OxK K C fI fs ∧ Binds K fd ps [] ∧ FnOk P w K mg base CX0 k fI fd ps sp
theorem mk_Dx {P : Program} {w : World} {K : PySem.W.Frag} {mg : Str → Option Value} {base : Heap} {k : Nat} {C fI : Addr} {fs ps : List Str} {sp : Sp} {m qual : Str} {params : Arguments} {body : List Stmt} {scope : Scope} (T : OxK K C fI fs) (h : ∃ fd, FunD K m qual params body scope [] [] fI fd)
    (hb : ∀ (kV doc pm : Value) (an : Option Addr) (cdv ct : Value) (us : List Value), us.length = ps.length → bindArgs (PySem.W.fnOf m qual params body scope .none kV doc pm an cdv ct) ⟨us, []⟩ = pure (ps.zip us))
    (ok : ∀ fd, FunD K m qual params body scope [] [] fI fd → FnOk P w K mg base CX0 k fI fd ps sp) : Dx P w K mg base k C fI fs ps sp := by
  obtain ⟨fd, F⟩ := h
  exact ⟨fd, T, F.bindsN hb, ok fd F⟩
section
variable {X : Cx} {W : WX} {B C fI : Addr} {k j : Nat} {x f g : Str} {ps fs : List Str} {p pos pos2 : Pos} {e : Expr} {es : List Expr} {ta : TA}
theorem d_raiseO {sp : Sp} (D : Dx X.prog X.w X.K X.mg X.base k C fI fs ps sp) (g0 : X.mg x = some (.ref C)) (tk : Takes X W) (hr : Room (k + 1) X.A) (ha : PA X (e :: es) ta) (hc : X.calm = true := by rfl) (hg : Gl X x := by rfl) (hdb : (x == ("__debug__" : Str)) = false := by decide)
    (he : starEach (e :: es) X.env = (false, eval e X.env) :: starEach es X.env := by rfl) (hpl : (backTo pos (starEach es X.env)).any (·.1) = false := by rfl) :
    PS X (.Raise (some (.Call (.Name x p) (e :: es) [] pos)) none pos2) (tRaiseO C sp ta W) := by
  obtain ⟨fd, T, b, F⟩ := D.ex
  exact ps_raise hc tk (pmk_oex (dvs := []) T.o T.i T.t F hr b .nil pass0 hg g0 ha hdb he hpl)
instance {D : Ends} {sp : Sp} {σ : Sl} {H : Hp} : Step (tRaiseO C sp ta W D σ H) (ta σ H fun vs H1 => rMk C sp W σ vs H1) := ⟨id⟩
theorem r_mk1 {σ : Sl} {H1 : Hp} {y : V} (q : ∀ d, H1 d = none → W (.ref C) (some d) σ (upd H1 d (.xd [(f, y)]))) : rMk C (spX1 C f) W σ [y] H1 := by
  refine ⟨Nat.le_of_ble_eq_true rfl, fun a ha => ?_⟩
  refine ⟨a, y, rfl, upd_same, fun dx h1 h2 => ⟨rfl, dx, [(f, y)], upd_same, by rw [upd_ne h2, upd_same], by rw [upd_ne h2] at h1; exact h1, ?_⟩⟩
  rw [xd_one ha h2]
  exact q dx (by rw [upd_ne h2] at h1; exact h1)
theorem r_mk2 {σ : Sl} {H1 : Hp} {y z : V} (q : ∀ d, H1 d = none → W (.ref C) (some d) σ (upd H1 d (.xd [(g, z), (f, y)]))) : rMk C (spX2 C f g) W σ [y, z] H1 := by
  refine ⟨Nat.le_of_ble_eq_true rfl, fun a ha => ?_⟩
  refine ⟨a, y, z, rfl, upd_same, fun dx h1 h2 => ⟨rfl, dx, [(g, z), (f, y)], by rw [upd_ne (Ne.symm h2), upd_same], by rw [upd_same], by rw [upd_ne h2] at h1; exact h1, ?_⟩⟩
  rw [xd_two ha h2]
  exact q dx (by rw [upd_ne h2] at h1; exact h1)
/-- .. in the abstract heap -/
theorem s_mk1 {F : List MP} {L : List (Addr × HO)} {σ : Sl} {H1 : Hp} {y : V} (s : S F L H1) (q : ∀ d H', S (cel d (.xd [(f, y)]) :: F) L H' → W (.ref C) (some d) σ H') : rMk C (spX1 C f) W σ [y] H1 := r_mk1 fun d hd => q d _ (s.newF hd)
theorem s_mk2 {F : List MP} {L : List (Addr × HO)} {σ : Sl} {H1 : Hp} {y z : V} (s : S F L H1) (q : ∀ d H', S (cel d (.xd [(g, z), (f, y)]) :: F) L H' → W (.ref C) (some d) σ H') : rMk C (spX2 C f g) W σ [y, z] H1 := r_mk2 fun d hd => q d _ (s.newF hd)
/-! isinstance of what was caught, with fields or without; a field of it -/
/-- the dict of what was caught -/
def XD (d : Option Addr) (fs : List (Str × V)) (H : Hp) : Prop := (d = none ∧ fs = []) ∨ ∃ dd, d = some dd ∧ H dd = some (.xd fs)
def rIsEy (K : PySem.W.Frag) (a : Addr) (cls : Value) (d : Option Addr) : List V → Hp → VK → Prop := fun xs H Q => ∃ (D : Addr) (c : V) (cv : Value) (b : Bool) (fs : List (Str × V)), cls = .ref D ∧ XD d fs H ∧ ExcC K D ∧ xs = [.ref a, c] ∧ (∀ u, RelV c u → u = cv) ∧ PySem.W.kitOne K (.ref D) cv = some b ∧ Q (.bl b) H
theorem call_isEy {K : PySem.W.Frag} {X : Cx} {a : Addr} {oe : Obj} {cls : Value} {d : Option Addr} {pn : List (Addr × Obj)} (hz : Zc cls d oe) (hf : ∃ vs, oe.data = .fields vs) (hK : X.K = K) : CallR (X.suite a ((a, oe) :: pn)) (.builtin "isinstance") (rIsEy K a cls d) := by
  subst hK
  intro pins s σ H xs us Q I r h
  obtain ⟨D, c, cv, b, fs, rfl, hd, T, rfl, hcv, e, q⟩ := h
  rcases hd with ⟨rfl, _⟩ | ⟨dd, rfl, hdd⟩
  · exact call_isE T hz hf pins s σ H _ us Q I r ⟨c, cv, b, rfl, hcv, e, q⟩
  · cases r with
    | cons rx rr =>
      cases rr with
      | cons rt rr =>
        cases rr
        cases rx
        have ec := hcv _ rt
        subst ec
        obtain ⟨hget, _⟩ := I.pin (a, oe) (List.mem_append.mpr (.inl List.mem_cons_self))
        obtain ⟨vs, hv⟩ := hf
        have hx : ObjOk X.prog X.w H s.heap dd (.xd fs) := I.hok dd _ hdd
        obtain ⟨mA, hns, hr⟩ := hx
        obtain ⟨od, ho, hl⟩ := lookIn_ns hns
        have J : PySem.W.InstAt s.heap a oe D (some od) := ⟨hget, hz.1, by unfold PySem.W.notCls; rw [hv] <;> rfl, by rw [hz.2]; exact ho⟩
        have hcl : (PySem.W.clsIn X.K D).isSome = true := by obtain ⟨cd, hc, _⟩ := PySem.W.any_some T.hd; rw [hc]; rfl
        exact PySem.W.kia_one (PySem.W.kitx_exc hcl T.hg T.hk T.hs T.ha T.hn T.ht T.hm) I.kIn J e (fun z => nomatch z) fun tk => ⟨.bl b, H, I.kept (t' := tk) fun _ _ z => z, rfl, q⟩
section
variable {K : PySem.W.Frag} {a : Addr} {i : Nat} {H : Hp} {Q : VK} {d : Option Addr} {gs : List (Str × V)}
theorem y_isE (T : XcK K C i) (hd : XD d gs H) (hj : errL[j]? = some x) (q : Q (.bl (decide (j = i))) H) : rIsEy K a (.ref C) d [.ref a, .ref (He.ga K x)] H Q :=
  ⟨C, _, .ref (He.ga K x), _, gs, rfl, hd, T.c, rfl, (fun u hu => by cases hu; rfl), T.l j x hj, q⟩
theorem y_isV (T : XcK K C i) (hd : XD d gs H) (q : Q (.bl true) H) : rIsEy K a (.ref C) d [.ref a, .ty "ValueError"] H Q :=
  ⟨C, _, .type "ValueError", _, gs, rfl, hd, T.c, rfl, (fun u hu => by cases hu; rfl), T.v, q⟩
theorem XD.mono {H' : Hp} (h : XD d gs H) (s : Same H H') : XD d gs H' := by
  rcases h with h | ⟨dd, h1, h2⟩
  · exact .inl h
  · exact .inr ⟨dd, h1, s _ _ h2⟩
/-- e.f in the suite: any class -/
def tXg (K : PySem.W.Frag) (a : Addr) (cls : Value) (d : Option Addr) (f : Str) (te : TE) : TE := fun σ H Q => te σ H fun x H1 => x = .ref a ∧ ∃ (C dd : Addr) (fs : List (Str × V)) (v : V), cls = .ref C ∧ XfC K C ∧ PySem.W.findIn K (.ref C) f = some none ∧ d = some dd ∧ H1 dd = some (.xd fs) ∧ fs.lookup f = some v ∧ Q v H1
end
end
theorem pe_xg (K : PySem.W.Frag) {X : Cx} {a : Addr} {oe : Obj} {cls : Value} {d : Option Addr} {pn : List (Addr × Obj)} {e : Expr} {te : TE} {pos : Pos} {n : Str} (hz : Zc cls d oe) (hf : ∃ vs, oe.data = .fields vs) (he : PE (X.suite a ((a, oe) :: pn)) e te) (hb : attributeBase e n X.env (eval e X.env) = eval e X.env := by rfl) (hK : X.K = K := by rfl) :
    PE (X.suite a ((a, oe) :: pn)) (.Attribute e n pos) (tXg K a cls d n te) := by
  subst hK
  refine ⟨fun pins s σ H Q I h => ?_⟩
  refine attr_of hb (thn (he.run pins s σ H _ I h) fun u s1 hh => ?_)
  obtain ⟨x, H1, I1, rx, ex, C, dd, fs, v, ec, T, hno, ed, ea, l, q⟩ := hh
  subst ex
  obtain rfl : u = Value.ref a := rx
  subst ec
  subst ed
  obtain ⟨ha, _⟩ := I1.pin (a, oe) (List.mem_append_left _ List.mem_cons_self)
  obtain ⟨vs, hd⟩ := hf
  have hx : ObjOk X.prog X.w H1 s1.heap dd (.xd fs) := I1.hok dd _ ea
  obtain ⟨mA, hns, hr⟩ := hx
  obtain ⟨od, ho, hl⟩ := lookIn_ns hns
  obtain ⟨u, hu, ru⟩ := RelO.some_of (v := v) (o := mA n) (by rw [← l]; exact hr n)
  have J : PySem.W.InstAt s1.heap a oe C (some od) := ⟨ha, hz.1, by unfold PySem.W.notCls; rw [hd] <;> rfl, by rw [hz.2]; exact ho⟩
  exact HandSPX.exc_get I1.kIn J T.ga T.gg T.exC (PySem.W.findObj_own T.hdC hno rfl (by rw [hl, hu])) (handed_of ru) ⟨v, H1, I1.tok _, ru, q⟩
end TW
namespace TW
open PySem PySem.Spec PyProof.Rows L2 LamX
/-! ### what the laws' own asking for an error answers -/
section
variable {K : PySem.W.Frag} {H : Hp} {Q : VK} {σ : Sl} {a C dx : Addr} {f : Str} {y : V} {ws : List V} {fs : List (Str × V)} {D : Ends}
/-- the base's __init__, at its arguments -/
def rVei (K : PySem.W.Frag) (vs : List V) (H1 : Hp) (Q : VK) : Prop := ∃ (a C : Addr) (ws : List V), vs = .ref a :: ws ∧ ws.length ≤ 1000 ∧ OexC K C ∧ H1 a = some (exo a C none) ∧ Q .non H1
instance {ta : TA} : Step (tVeI K ta σ H Q) (ta σ H fun vs H1 => rVei K vs H1 Q) := ⟨id⟩
theorem x_vei (T : OexC K C) (h : H a = some (exo a C none)) (q : Q .non H) (hl : ws.length ≤ 1000 := by decide) : rVei K (.ref a :: ws) H Q := ⟨a, C, ws, rfl, hl, T, h, q⟩
def rOst (K : PySem.W.Frag) (f : Str) (D : Ends) (σ : Sl) (y : V) (x : V) (H2 : Hp) : Prop := ∃ a C : Addr, x = .ref a ∧ OexC K C ∧ PySem.W.findIn K (.ref C) f = some none ∧
  ((H2 a = some (exo a C none) ∧ ∀ dx, H2 dx = none → dx ≠ a → D.nx σ (upd (upd H2 dx (exd dx [(f, y)])) a (exo a C (some dx)))) ∨
    ∃ (dx : Addr) (fs : List (Str × V)), H2 a = some (exo a C (some dx)) ∧ H2 dx = some (exd dx fs) ∧ fs.length ≤ 900 ∧ D.nx σ (upd H2 dx (exd dx ((f, y) :: fs))))
instance {to te : TE} : Step (tOst K f to te D σ H) (te σ H fun y H1 => to σ H1 fun x H2 => rOst K f D σ y x H2) := ⟨id⟩
theorem x_ost1 (T : OexC K C) (n : PySem.W.findIn K (.ref C) f = some none) (h : H a = some (exo a C none)) (q : ∀ dx, H dx = none → dx ≠ a → D.nx σ (upd (upd H dx (exd dx [(f, y)])) a (exo a C (some dx)))) : rOst K f D σ y (.ref a) H :=
  ⟨a, C, rfl, T, n, .inl ⟨h, q⟩⟩
theorem x_ost2 (T : OexC K C) (n : PySem.W.findIn K (.ref C) f = some none) (h : H a = some (exo a C (some dx))) (h2 : H dx = some (exd dx fs)) (hl : fs.length ≤ 900) (q : D.nx σ (upd H dx (exd dx ((f, y) :: fs)))) : rOst K f D σ y (.ref a) H :=
  ⟨a, C, rfl, T, n, .inr ⟨dx, fs, h, h2, hl, q⟩⟩
def rXg (K : PySem.W.Frag) (a : Addr) (cls : Value) (d : Option Addr) (f : Str) (x : V) (H1 : Hp) (Q : VK) : Prop := x = .ref a ∧ ∃ (C dd : Addr) (fs : List (Str × V)) (v : V), cls = .ref C ∧ XfC K C ∧ PySem.W.findIn K (.ref C) f = some none ∧ d = some dd ∧ H1 dd = some (.xd fs) ∧ fs.lookup f = some v ∧ Q v H1
instance {a : Addr} {cls : Value} {d : Option Addr} {te : TE} : Step (tXg K a cls d f te σ H Q) (te σ H fun x H1 => rXg K a cls d f x H1 Q) := ⟨id⟩
theorem x_xg {dd : Addr} {v : V} {F : List MP} {L : List (Addr × HO)} (s : S F L H) (h : cel dd (.xd fs) ∈ F) (T : XfC K C) (n : PySem.W.findIn K (.ref C) f = some none) (e : fs.lookup f = some v) (q : Q v H) : rXg K a (.ref C) (some dd) f (.ref a) H Q :=
  ⟨rfl, C, dd, fs, v, rfl, T, n, rfl, s.phi h, e, q⟩
end
def kl (i : Nat) : List V := [.bl (decide (0 = i)), .bl (decide (1 = i)), .bl (decide (2 = i)), .bl (decide (3 = i)), .bl (decide (4 = i)), .bl (decide (5 = i)), .bl (decide (6 = i)), .bl (decide (7 = i)), .bl (decide (8 = i)), .bl (decide (9 = i)), .bl (decide (10 = i)), .bl (decide (11 = i))]
def errU : List Str := ["tick", "number", "digits", "many", "limit", "contradiction", "name", "unknown", "hall", "text", "code", "operation"]
theorem kl_cnt : ∀ i : Nat, i < 12 → (kl i).countP (fun z => eqV z (.bl true)) = 1 := by
  intro i h
  rcases i with _ | _ | _ | _ | _ | _ | _ | _ | _ | _ | _ | _ | i
  all_goals first | rfl | omega
theorem kl_flat (i : Nat) : (kl i).all flatV = true := rfl
theorem kl_at (i : Nat) (h : i < 12) : (kl i)[i]? = some (.bl true) := by
  rcases i with _ | _ | _ | _ | _ | _ | _ | _ | _ | _ | _ | _ | i
  all_goals first | rfl | omega
theorem kl_no (i m : Nat) (h : i < 12) (hm : m < i) : ∀ z, (kl i)[m]? = some z → eqV z (.bl true) = false := by
  intro z e
  have e0 : (kl i)[m]? = some (.bl (decide (m = i))) := by
    rcases m with _ | _ | _ | _ | _ | _ | _ | _ | _ | _ | _ | _ | m
    all_goals first | rfl | omega
  rw [e0] at e
  cases e
  rw [decide_eq_false (by omega)]
  rfl
section
variable {K : PySem.W.Frag} {H : Hp} {Q : VK} {q : Addr} {i : Nat}
theorem x_kcnt {ys : List V} (h : SqL K H q ys) (e : ys = kl i) (hi : i < 12) (k : Q (.int 1) H) : rCntF K (.ref q) [.bl true] H Q := by
  subst e
  exact x_cntF h rfl (kl_flat i) (by rw [kl_cnt i hi]; exact k)
theorem x_kidx {ys : List V} (h : SqL K H q ys) (e : ys = kl i) (hi : i < 12) (k : Q (.int i) H) : rIndex K (.ref q) [.bl true] H Q := by
  subst e
  exact x_index h rfl (kl_flat i) (kl_at i hi) rfl (fun m z hm e => kl_no i m hi hm z e) k
end
/-- how a closure ends: it answers | raises an error without fields | with two fields | with one -/
def ErOut (K : PySem.W.Frag) (sp : Sp) (H : Hp) (Q : VK) : Prop :=
  (∃ (F : List MP) (L : List (Addr × HO)), (∀ Q' E', (∀ v H', S F L H' → Q' v H') → sp [] H Q' E') ∧ ∀ H', S F L H' → Q .non H') ∨
  (∃ (F : List MP) (L : List (Addr × HO)) (C : Addr) (i : Nat) (tag : Str), XcK K C i ∧ i < 8 ∧ errU[i]? = some tag ∧ (∀ Q' E', (∀ H', S F L H' → E' (.ref C) none H') → sp [] H Q' E') ∧ ∀ q H', S (cel q (.tup [.str tag, .int 0]) :: F) L H' → Q (.ref q) H') ∨
  (∃ (F : List MP) (L : List (Addr × HO)) (C fI : Addr) (pv iv : V), XcK K C 8 ∧ OxK K C fI ["part", "index"] ∧ (∀ Q' E', (∀ d H', S (cel d (.xd [("index", iv), ("part", pv)]) :: F) L H' → E' (.ref C) (some d) H') → sp [] H Q' E') ∧
    ∀ q r H', S (cel q (.tup [.str "hall", .ref r]) :: cel r (.tup [pv, iv]) :: F) L H' → Q (.ref q) H') ∨
  (∃ (F : List MP) (L : List (Addr × HO)) (C fI : Addr) (i : Nat) (tag g : Str) (v : V), XcK K C i ∧ OxK K C fI [g] ∧ ((i = 9 ∧ g = "line") ∨ (i = 10 ∧ g = "place") ∨ (i = 11 ∧ g = "place")) ∧ errU[i]? = some tag ∧
    (∀ Q' E', (∀ d H', S (cel d (.xd [(g, v)]) :: F) L H' → E' (.ref C) (some d) H') → sp [] H Q' E') ∧ ∀ q H', S (cel q (.tup [.str tag, v]) :: F) L H' → Q (.ref q) H')
def spErG (P : Program) (w : World) (K : PySem.W.Frag) (mg : Str → Option Value) (base : Heap) (k : Nat) : Sp := fun vs H Q _ => ∃ (f : Addr) (o : Obj) (sp : Sp), vs = [.ref f] ∧ H f = some (ExO f o) ∧ CloOk P w K mg base (L2.CX P w) k f o 0 sp ∧ ErOut K sp H Q
end TW
namespace TW
open PySem PySem.Spec PyProof.Rows L2 LamX
/-! ### a lambda with one default, a whole number -/
abbrev lamD (q : Str) (params : Arguments) (body : Expr) (scope : Scope) (cells : List (Str × Addr)) (dt : Addr) (doc : Value) (c : Addr) (pm ctv : Value) : Obj := PySem.W.kdv_obj "<lambda>" q params (.expr body) scope (cloFrom cells scope.names []) (.ref dt) doc pm c ctv
def tLamD (P : Addr) (q : Str) (n : Int) (mk : Addr → Value → Addr → Value → Value → Obj) : TE := fun σ H Q => ∀ dt doc, H dt = none → tLamV P q (mk dt doc) σ (upd H dt (.tup [.int n])) Q
theorem pe_lamD {X : Cx} {c P : Addr} {params : Arguments} {body : Expr} {scope : Scope} {pos cp : Pos} {n : Int} {j : Nat} (TB : TabB X.base X.mg c P) (hcode : X.env.code = .ref c) (hd : params.defaults = [.Constant (.int n) j cp]) (hk0 : params.kw_defaults = [])
    (free : ∀ y ∈ scope.names, y.2 = .free → X.env.scope.names.lookup y.1 = some .cell ∨ X.env.scope.names.lookup y.1 = some .free) : PE X (.Lambda params body scope pos) (tLamD P (X.env.qual ++ "<lambda>") n (lamD (X.env.qual ++ "<lambda>") params body scope X.env.cells)) := by
  refine ⟨fun pins s0 σ H0 Q I0 h0 => ?_⟩
  have hfree : ∀ y ∈ scope.names, y.2 = .free → ∃ c, X.env.cells.lookup y.1 = some c := fun y hy e => by
    rcases free y hy e with k | k
    · exact I0.ok.has _ (.inl k)
    · exact I0.ok.has _ (.inr k)
  refine PySem.W.kdv_lam (by rw [hd]; rfl) hk0 ?_
  rw [hd]
  refine PySem.W.kdv_all1 (thn (pe_int.run pins s0 σ H0 (fun v H1 => v = .int n ∧ H0 = H1) I0 ⟨rfl, rfl⟩) fun v s1 ⟨x, H1, I1, r1, q1⟩ => ?_)
  obtain ⟨ex, eH⟩ := q1
  subst ex
  subst eH
  refine PySem.W.kdv_all0 ?_
  rw [makeFunction_eq]
  simp only [List.zip_nil_right, List.filterMap_nil, List.isEmpty_nil, List.isEmpty_cons, if_true, pure_bind, Bool.false_eq_true, if_false]
  refine wpAny_bind (wpAny_newTextTuple ?_)
  have hn1 : H0 s1.heap.objs.size = none := I1.hok.fresh (Nat.le_refl _)
  have hget : (s1.heap.push { cls := .type "tuple", data := .seq [v].toArray }).get? s1.heap.objs.size = some { cls := .type "tuple", data := .seq [v].toArray } := Heap.get?_push_size _ rfl
  have I := I1.laid (t' := s1.toks) (a := s1.heap.objs.size) (o := .tup [.int n]) (h' := s1.heap.push { cls := .type "tuple", data := .seq [v].toArray }) (fun b o e => Heap.get?_push_of_some _ e) (Nat.le_refl _) ⟨Nat.le_of_ble_eq_true rfl, [v], .cons r1 .nil, ⟨_, hget, rfl, _, rfl⟩⟩
  generalize hdt : s1.heap.objs.size = dt at hn1 I
  generalize hs : ({ s1 with heap := s1.heap.push { cls := .type "tuple", data := .seq [v].toArray } } : Shared) = s at I
  have h := h0 dt
  generalize upd H0 dt (.tup [.int n]) = H at I h
  have hh := h .none hn1
  obtain ⟨ps, hP, ⟨ht, ha⟩, _, _⟩ := hh
  have bP : s.heap.BuiltinsAt X.mg P := TB.bm.keeps I.bk
  have hP' : s.heap.get? P = some { cls := .none, data := .fields ps } := I.hok P _ hP
  cases hc : codeAmong pos ps.toList with
  | none =>
    refine PySem.W.kdv_makeTail (mg := X.mg) (c := c) (P := P) (ps := ps) (closure_ok hfree) I.ok.glob (I.mod.glob.keeps I.bk) hcode (TB.code.keeps I.bk) hP' ht hc TB.gP bP fun c' ctv doc h' tk hx hge hlt hrec htb => ?_
    obtain ⟨ps2, hP2, _, knew, _⟩ := h doc hn1
    rw [hP] at hP2
    cases hP2
    obtain ⟨c2, oc, vs, t, e2, hoc, hd, hv⟩ := hrec
    cases e2
    have nC : H c' = none := I.hok.fresh hge
    have I1 := inv_table (t' := tk) (more := #[rawInt pos.line, rawInt pos.col, .ref c']) (h' := h') I hP (fun b o hb e => hx b o hb e) htb hge ⟨oc, vs, t, hoc, hd, hv⟩
    have eL : (ps ++ #[rawInt pos.line, rawInt pos.col, .ref c']).toList = ps.toList ++ [rawInt pos.line, rawInt pos.col, .ref c'] := by simp
    have n1 : c' ≠ P := fun z => by rw [z, hP] at nC; cases nC
    have sz : s.heap.objs.size ≤ h'.objs.size := Nat.le_trans hge (Nat.le_of_lt hlt)
    have n2 : h'.objs.size ≠ c' := Nat.ne_of_gt hlt
    have n3 : h'.objs.size ≠ P := Nat.ne_of_gt (Nat.lt_of_lt_of_le (Heap.lt_size hP') sz)
    have nf : H h'.objs.size = none := I.hok.fresh sz
    have I2 := I1.laid (a := h'.objs.size) (o := ExO h'.objs.size (lamD (X.env.qual ++ "<lambda>") params body scope X.env.cells dt doc c' ((X.mg "__name__").getD .none) ctv)) (t' := tk) (h' := h'.push (lamD (X.env.qual ++ "<lambda>") params body scope X.env.cells dt doc c' ((X.mg "__name__").getD .none) ctv))
      (fun b u e => Heap.get?_push_of_some _ e) (Nat.le_refl _) (exO_ok (Heap.get?_push_size _ rfl))
    refine ⟨.ref h'.objs.size, _, I2, rfl, knew _ c' _ _ _ nC n1 ?_ (fun p' cv hcv => ?_) nf n2 n3⟩
    · rw [eL]
      exact PySem.TriplesOk_snoc _ _ _ _ ht
    · rw [eL] at hcv
      exact among_app _ ht hcv
  | some cv =>
    obtain ⟨c', e, hco⟩ := ha pos cv hc
    subst e
    refine PySem.W.kdv_makeTailHit (mg := X.mg) (c := c) (P := P) (ps := ps) (closure_ok hfree) I.ok.glob (I.mod.glob.keeps I.bk) hcode (TB.code.keeps I.bk) hP' ht hc bP fun ctv doc h' tk hx hsz => ?_
    obtain ⟨ps2, hP2, _, _, kold⟩ := h doc hn1
    rw [hP] at hP2
    cases hP2
    have I1 : L2.Inv X pins σ (upd H h'.objs.size (ExO h'.objs.size (lamD (X.env.qual ++ "<lambda>") params body scope X.env.cells dt doc c' ((X.mg "__name__").getD .none) ctv))) { s with heap := h'.push (lamD (X.env.qual ++ "<lambda>") params body scope X.env.cells dt doc c' ((X.mg "__name__").getD .none) ctv), toks := tk } :=
      I.laid (fun b o e => Heap.get?_push_of_some _ (hx b o e)) hsz (exO_ok (Heap.get?_push_size _ rfl))
    exact ⟨.ref h'.objs.size, _, I1, rfl, kold pos c' _ _ _ hc (I.hok.fresh hsz)⟩
/-- the reading of such a closure -/
def spCloD (q : Str) (c dt : Addr) (n : Int) (cl : List (Str × Addr)) (fs : List Str) (tb : XK → TE) : Sp := fun vs H Q E => vs = [] ∧ H dt = some (.tup [.int n]) ∧ ∃ (ws : List V) (cs : List (Addr × Obj)), H c = some (CodeO c q) ∧ c ∉ cs.map (·.1) ∧
  (∀ p ∈ cs, H p.1 = some (ExO p.1 p.2)) ∧ ws.length = fs.length ∧ (∀ (i : Nat) y, fs[i]? = some y → ∃ p ∈ cs, ∃ w u, cl.lookup y = some p.1 ∧ ws[i]? = some w ∧ RelV w u ∧ p.2.data = .cell (some u)) ∧
  tb (fun cls d H2 => (∀ p ∈ cs, H2 p.1 = none) → E cls d (adds H2 cs)) ((.int n :: ws).map some) (subs H cs) (fun v H2 => (∀ p ∈ cs, H2 p.1 = none) → Q v (adds H2 cs))
section
variable {P : Program} {w : World} {K : PySem.W.Frag} {mg : Str → Option Value} {base : Heap} {CX : CXT} {q a : Str} {scope : Scope} {f c dt : Addr} {n : Int} {fs : List Str}
theorem cloD_of {params : Arguments} {body : Expr} {cells : List (Str × Addr)} {doc pm ctv : Value} {k : Nat} {tb : XK → TE} (cx : CxAdds CX) (L : LamN [a] fs scope) (hfree : ∀ y ∈ fs, ∃ c, cells.lookup y = some c) (inj : ∀ x y c, cells.lookup x = some c → cells.lookup y = some c → x = y)
    (hbind : ∀ v : Value, ∃ k, bindArgs (PySem.W.kdv_fn "<lambda>" q params (.expr body) scope (cloFrom cells scope.names []) (.ref dt) doc pm (.ref c) ctv) ⟨[], []⟩ = seqItems? (.ref dt) >>= k ∧ k (some #[v]) = pure [(a, v)])
    (hbody : ∀ (A : Around) (outer : List Env) (s : Shared) (H : Hp) (E : XK), Room k (A.deeper (PySem.W.envX q scope s.heap.objs.size f (.ref c) (cloFrom cells scope.names []))) → PE (lamCx CX P w K mg base ([a] ++ fs) q scope f c (cloFrom cells scope.names []) A outer s H E) body (tb E)) :
    CloOk P w K mg base CX (k + 1) f (lamD q params body scope cells dt doc c pm ctv) 0 (spCloD q c dt n (cloFrom cells scope.names []) fs tb) := by
  refine ⟨⟨_, rfl⟩, fun _ _ _ _ h => by rw [h.1]; rfl, fun A outer s H us vs Q E hr e0 rv hf h => ?_⟩
  obtain ⟨rfl, hdt, ws, cs, hco, hnc, hcs, lw, hcap, htb⟩ := h
  cases rv
  have cm : ∀ {y c}, (cloFrom cells scope.names []).lookup y = some c → y ∈ fs ∧ cells.lookup y = some c := fun {y c} e => by
    rcases cloFrom_mem (PySem.mem_of_lookup e) with hm | ⟨h1, h2⟩
    · cases hm
    · have hy := L.cap _ h1 rfl
      obtain ⟨c1, hc⟩ := hfree y hy
      rw [h2, hc]
      exact ⟨hy, rfl⟩
  have of1 : s.heap.get? f = some (lamD q params body scope cells dt doc c pm ctv) := exO_get e0.hok hf
  obtain ⟨⟨oc, vs', t, hoc, hdc, hvc⟩, _, _⟩ := e0.hok c _ hco
  have hg : ∀ p ∈ cs, s.heap.get? p.1 = some p.2 := fun p hp => exO_get e0.hok (hcs p hp)
  have nfr : ∀ p ∈ cs, p.1 ∉ frs outer := fun p hp z => by
    have := e0.frf _ z
    rw [hcs p hp] at this
    cases this
  have e1 : Env0 P w K mg base A outer s (subs H cs) := ⟨e0.frames, e0.mod, fun b o e => ⟨(e0.bs b o e).1, by unfold subs; split; rfl; exact (e0.bs b o e).2⟩, e0.bsz, e0.funs, fun b hb => by unfold subs; split; rfl; exact e0.frf b hb, subs_ok e0.hok fun p hp => ⟨_, hcs p hp⟩, e0.bare⟩
  have htup : ObjOk P w H s.heap dt (.tup [.int n]) := e0.hok dt _ hdt
  obtain ⟨_, its, rits, ot, hot, hoc2, nt, hodt⟩ := htup
  obtain ⟨v, rfl, rv⟩ := rits.one
  obtain ⟨kk, b1, b2⟩ := hbind v
  refine PySem.W.kla_callFunE hr.depth of1 rfl L.co L.gen rfl ⟨c, oc, vs', t, rfl, hoc, hdc, hvc⟩ ?_
  rw [b1]
  refine wpAny_bind (wpAny_seqItems hot hodt ?_)
  rw [show ([v].toArray : Array Value) = #[v] from rfl, b2]
  have hpar : ∀ y ∈ [(a, v)], scope.names.lookup y.1 = some .local := fun y hy => by
    rw [List.mem_singleton.mp hy]
    exact L.par a List.mem_cons_self
  refine wpAny_pure (wpAny_newFunctionEnv (fun y hy => L.nocell y hy) hpar (fun h₁ hns hsb => ⟨(e0.mod.nolimit.keeps fun b o e => (e0.bs b o e).1).fresh _ hsb, ?_⟩) L.kind)
  have kp : ∀ b o, s.heap.get? b = some o → h₁.get? b = some o := fun b o e => hsb.extBut b o (Nat.ne_of_lt (Heap.lt_size e)) (Heap.get?_push_of_some _ e)
  have J : L2.Inv (lamCx CX P w K mg base ([a] ++ fs) q scope f c (cloFrom cells scope.names []) A outer s (subs H cs) (fun cls d H2 => (∀ p ∈ cs, H2 p.1 = none) → E cls d (adds H2 cs))) [] ((.int n :: ws).map some) (subs H cs) { s with heap := h₁, toks := s.toks + [(a, v)].length } :=
    lam_start (vs := [.int n]) (us := [v]) L e1 hr.hd (.cons rv .nil) rfl (fun y c e => (cm e).1) (fun x y c a b => inj x y c (cm a).2 (cm b).2) (fun i y hy => by
      obtain ⟨p, hp, w, u, a1, a2, a3, a4⟩ := hcap i y hy
      exact ⟨p.1, w, u, a1, a2, a3, ⟨p.2, hg p hp, a4⟩, subs_at (List.mem_map.mpr ⟨p, hp, rfl⟩)⟩) lw hns kp
  refine PySem.W.kla_codeExpr (wpAny_mono ((hbody A outer s _ _ (hr.deeper _)).run [] _ _ _ _ J htb) (fun v s' hq => ?_) fun e s' hq => ?_)
  · obtain ⟨w', H', J', rv', qq⟩ := hq
    obtain ⟨u1, n2⟩ := un_adds J'.base hcs hg
    exact ⟨w', adds H' cs, J'.os, J'.bare, u1, adds_ok J'.hok (fun p hp => J'.base.keep _ _ (hg p hp) (subs_at (List.mem_map.mpr ⟨p, hp, rfl⟩)) (nfr p hp) (fun z => absurd (show p.1 ∈ ([] : List Addr) from z) (by simp))) n2, rv', qq n2⟩
  · exact wpAny_mono hq (fun _ s2 h2 => cx _ _ _ _ _ _ _ (fun p hp => ⟨hg p hp, hcs p hp, nfr p hp⟩) h2) fun _ s2 h2 => cx _ _ _ _ _ _ _ (fun p hp => ⟨hg p hp, hcs p hp, nfr p hp⟩) h2
end
section
variable {X : Cx} {c T : Addr} {params : Arguments} {body : Expr} {scope sc : Scope} {pos cp : Pos} {n : Int} {j : Nat}
theorem d_lamD (sc : Scope) (TB : TabB X.base X.mg c T) (hcode : X.env.code = .ref c := by rfl) (hd : params.defaults = [.Constant (.int n) j cp] := by rfl) (hk0 : params.kw_defaults = [] := by rfl) (hsc : X.env.scope = sc := by rfl)
    (free : ∀ y ∈ scope.names, y.2 = .free → sc.names.lookup y.1 = some .cell ∨ sc.names.lookup y.1 = some .free := by decide +kernel) :
    PE X (.Lambda params body scope pos) (tLamD T (X.env.qual ++ "<lambda>") n (lamD (X.env.qual ++ "<lambda>") params body scope X.env.cells)) := pe_lamD TB hcode hd hk0 (by rw [hsc]; exact free)
end
section
variable {F : List MP} {L : List (Addr × HO)} {H : Hp} {Q : VK} {q : Str} {T : Addr} {ps : Array Value} {n : Int} {mk : Addr → Value → Addr → Value → Value → Obj}
/-- such a lambda is made -/
theorem x_lamD {σ : Sl} (s : S F ((T, .tbl ps) :: L) H) (m : tcP q ps ∈ F)
    (k : ∀ (dt : Addr) (doc : Value) (ps' : Array Value) (c f : Addr) (pm ctv : Value) (H' : Hp), S (cel f (ExO f (mk dt doc c pm ctv)) :: cel c (CodeO c q) :: tcP q ps' :: cel dt (.tup [.int n]) :: F) ((T, .tbl ps') :: L) H' → Q (.ref f) H') : tLamD T q n mk σ H Q :=
  fun dt doc hd => x_lam (s.newF hd) (List.mem_cons_of_mem _ m) fun ps' c f pm ctv H' s' => k dt doc ps' c f pm ctv H' s'
end
end TW
namespace TW
open PySem PySem.Spec PyProof.Rows L2 LamX
/-! ### halls whose parts are not valid -/
theorem tyX_mono {K : PySem.W.Frag} {E E' : Hp} (s : Same E E') {v : V} {t : Value} (h : TyX K E v t) : TyX K E' v t := by
  cases h with
  | base h =>
    cases h with
    | non => exact .base .non
    | bl x => exact .base (.bl x)
    | int i => exact .base (.int i)
    | str x => exact .base (.str x)
    | flt x => exact .base (.flt x)
    | lst e => exact .base (.lst (s _ _ e))
    | frz e => exact .base (.frz (s _ _ e))
    | tup e => exact .base (.tup (s _ _ e))
    | dK e => exact .base (.dK (s _ _ e))
    | dT e => exact .base (.dT (s _ _ e))
    | ins e a b c d => exact .base (.ins (s _ _ e) a b c d ‹_›)
  | byt b => exact .byt b
  | set e => exact .set (s _ _ e)
  | kList e c => exact .kList e c
  | kTuple e c => exact .kTuple e c
  | kDict e c => exact .kDict e c
  | fTuple e => exact .fTuple (s _ _ e)
  | fDict e => exact .fDict (s _ _ e)
def tyP (K : PySem.W.Frag) (v : V) (n : String) : MP := ⟨fun E => TyX K E v (.type n), fun _ _ s h => tyX_mono s h⟩
/-- the entries that are not valid: the place -/
inductive BadEn (K : PySem.W.Frag) (F : List MP) : V → Int → Prop where
  | kind {v : V} {n : String} (h : Ent F (tyP K v n)) (hn : n ∈ kinds) (ne : n ≠ "tuple") : BadEn K F v 0
  | item {p : Addr} {xs : List V} {i : Nat} {x : V} {n : String} (h : Ent F (tuF K p xs)) (g : ∀ j v, j < i → xs[j]? = some v → isIn v 0 9 = true) (e : xs[i]? = some x) (hx : Ent F (tyP K x n)) (hn : n ∈ kinds) (b : i = 12 ∨ isIn x 0 9 = false) (hi : i ≤ 12) : BadEn K F (.ref p) i
  | empty {p : Addr} (h : Ent F (tuF K p [])) : BadEn K F (.ref p) 0
structure GoodEn (K : PySem.W.Frag) (F : List MP) (v : V) : Prop where
  ex : ∃ (p : Addr) (xs : List Int), v = .ref p ∧ 0 < xs.length ∧ xs.length ≤ 12 ∧ (∀ y ∈ xs, 0 ≤ y ∧ y ≤ 9) ∧ Ent F (tuF K p (xs.map V.int))
inductive BadH (K : PySem.W.Frag) (F : List MP) : V → V → V → V → Str → Int → Prop where
  | m {m t c l : V} {n : String} (h : Ent F (tyP K m n)) (hn : n ∈ kinds) (b : isIn m 2 10000 = false) : BadH K F m t c l "modulus" 0
  | t {m i : Int} {t c l : V} (h0 : 2 ≤ m) (h1 : m ≤ 10000) (b : BadEn K F t i) : BadH K F (.int m) t c l "takes" i
  | c {m i : Int} {t c l : V} (h0 : 2 ≤ m) (h1 : m ≤ 10000) (g : GoodEn K F t) (b : BadEn K F c i) : BadH K F (.int m) t c l "calls" i
  | l {m : Int} {t c l : V} {n : String} (h0 : 2 ≤ m) (h1 : m ≤ 10000) (g : GoodEn K F t) (g2 : GoodEn K F c) (h : Ent F (tyP K l n)) (hn : n ∈ kinds) (b : isIn l 0 99 = false) : BadH K F (.int m) t c l "lateness" 0
abbrev ihx (p : Str) (i : Int) : HO := .xd [("index", .int i), ("part", .str p)]
abbrev ihC (K : PySem.W.Frag) : Value := .ref (He.ga K "InvalidHall")
def spChkX (K : PySem.W.Frag) : Sp := fun vs H Q E => ∃ (F : List MP) (L : List (Addr × HO)) (part : Str) (v : V), vs = [.str part, v] ∧ S F L H ∧
  ((GoodEn K F v ∧ ∀ H', S F L H' → Q .non H') ∨ ∃ i, BadEn K F v i ∧ ∀ d H', S (cel d (ihx part i) :: F) L H' → E (ihC K) (some d) H')
def spInitX (K : PySem.W.Frag) : Sp := fun vs H Q E => ∃ (F : List MP) (L : List (Addr × HO)) (x : Addr) (m t c l : V) (part : Str) (i : Int), vs = [.ref x, m, t, c, l] ∧ S F L H ∧ BadH K F m t c l part i ∧ ∀ d H', S (cel d (ihx part i) :: F) L H' → E (ihC K) (some d) H'
def spHallX (K : PySem.W.Frag) : Sp := fun vs H Q E => ∃ (F : List MP) (L : List (Addr × HO)) (p : Addr) (m t c l : V) (part : Str) (i : Int), vs = [.ref p] ∧ Ent F (tuF K p [m, t, c, l]) ∧ S F L H ∧ BadH K F m t c l part i ∧ ∀ d H', S (cel d (ihx part i) :: F) L H' → E (ihC K) (some d) H'
theorem Ent.mono {F F' : List MP} {f : MP} (h : Ent F f) (s : ∀ g ∈ F, g ∈ F') : Ent F' f := fun E e => h E fun g hg => e g (s g hg)
theorem BadEn.mono {K : PySem.W.Frag} {F F' : List MP} {v : V} {i : Int} (s : ∀ g ∈ F, g ∈ F') (h : BadEn K F v i) : BadEn K F' v i := by
  cases h with
  | kind h hn ne => exact .kind (h.mono s) hn ne
  | item h g e hx hn b hi => exact .item (h.mono s) g e (hx.mono s) hn b hi
  | empty h => exact .empty (h.mono s)
theorem GoodEn.mono {K : PySem.W.Frag} {F F' : List MP} {v : V} (s : ∀ g ∈ F, g ∈ F') (h : GoodEn K F v) : GoodEn K F' v := by
  obtain ⟨p, xs, h1, h2, h3, h4, h5⟩ := h
  exact ⟨p, xs, h1, h2, h3, h4, h5.mono s⟩
theorem BadH.mono {K : PySem.W.Frag} {F F' : List MP} {m t c l : V} {p : Str} {i : Int} (s : ∀ g ∈ F, g ∈ F') (h : BadH K F m t c l p i) : BadH K F' m t c l p i := by
  cases h with
  | m h hn b => exact .m (h.mono s) hn b
  | t h0 h1 b => exact .t h0 h1 (b.mono s)
  | c h0 h1 g b => exact .c h0 h1 (g.mono s) (b.mono s)
  | l h0 h1 g g2 h hn b => exact .l h0 h1 (g.mono s) (g2.mono s) (h.mono s) hn b
section
variable {K : PySem.W.Frag} {H : Hp} {Q : VK} {E : XK} {F : List MP} {L : List (Addr × HO)} {part : Str} {v m t c l x : V} {i lo hi : Int} {a : Addr} {n : String}
theorem c_chkX (s : S F L H) (h : (GoodEn K F v ∧ ∀ H', S F L H' → Q .non H') ∨ ∃ i, BadEn K F v i ∧ ∀ d H', S (cel d (ihx part i) :: F) L H' → E (ihC K) (some d) H') : spChkX K [.str part, v] H Q E := ⟨F, L, part, v, rfl, s, h⟩
theorem c_isIn (s : S F L H) (ty : Ent F (tyP K x n)) (hn : n ∈ kinds) (h : ∀ H', S F L H' → Q (.bl (isIn x lo hi)) H') : spIsInt K [x, .int lo, .int hi] H Q E := ⟨F, L, x, lo, hi, n, rfl, hn, s.ent ty, s, h⟩
theorem c_initX (s : S F L H) (b : BadH K F m t c l part i) (h : ∀ d H', S (cel d (ihx part i) :: F) L H' → E (ihC K) (some d) H') : spInitX K [.ref a, m, t, c, l] H Q E := ⟨F, L, a, m, t, c, l, part, i, rfl, s, b, h⟩
theorem c_hallX (s : S F L H) (e : Ent F (tuF K a [m, t, c, l])) (b : BadH K F m t c l part i) (h : ∀ d H', S (cel d (ihx part i) :: F) L H' → E (ihC K) (some d) H') : spHallX K [.ref a] H Q E := ⟨F, L, a, m, t, c, l, part, i, rfl, e, s, b, h⟩
end
end TW
namespace TW
open PySem PySem.Spec PyProof.Rows L2 LamX
/-! ### closures that raise, one by one -/
def NoX (L : List (Addr × HO)) : Prop := ∀ p ∈ L, (∀ xs, p.2 ≠ .xd xs) ∧ (∀ xs, p.2 ≠ .tup xs) ∧ ∀ o xs, p.2 ≠ .frz o (.tup xs)
theorem NoX.nil : NoX [] := fun p hp => nomatch hp
theorem NoX.lst {L : List (Addr × HO)} {a : Addr} {xs : List V} (h : NoX L) : NoX ((a, .lst xs) :: L) := fun p hp => by
  rcases List.mem_cons.mp hp with e | hp
  · subst e
    exact ⟨(fun xs z => by cases z), (fun xs z => by cases z), (fun o xs z => by cases z)⟩
  · exact h p hp
theorem NoX.tbl {L : List (Addr × HO)} {a : Addr} {ps : Array Value} (h : NoX L) : NoX ((a, .tbl ps) :: L) := fun p hp => by
  rcases List.mem_cons.mp hp with e | hp
  · subst e
    exact ⟨(fun xs z => by cases z), (fun xs z => by cases z), (fun o xs z => by cases z)⟩
  · exact h p hp
theorem NoX.ins {L : List (Addr × HO)} {a C dx : Addr} {fl : List (Str × V)} (h : NoX L) : NoX ((a, .ins C dx fl) :: L) := fun p hp => by
  rcases List.mem_cons.mp hp with e | hp
  · subst e
    exact ⟨(fun xs z => by cases z), (fun xs z => by cases z), (fun o xs z => by cases z)⟩
  · exact h p hp
theorem S.putTy {K : PySem.W.Frag} {F F' : List MP} {L L' : List (Addr × HO)} {H : Hp} {v : V} {n : String} (s : S F L H) (h : Ent F (tyP K v n)) (hF : F'.Sublist F) (hL : L'.Sublist L) : S (tyP K v n :: F') L' H :=
  (s.put_ (tyP K v n) h).sub (hF.cons_cons _) hL
theorem Ent.tyT {K : PySem.W.Frag} {F : List MP} {p : Addr} {xs : List V} (h : cel p (.tup xs) ∈ F) : Ent F (tyP K (.ref p) "tuple") := fun E e => .base (.tup (e _ h))
mutual
def noLs : PyData → Bool
  | .list _ => false
  | .tuple ds => noLsA ds
  | _ => true
def noLsA : List PyData → Bool
  | [] => true
  | d :: ds => noLs d && noLsA ds
end
section
variable {K : PySem.W.Frag} {E H : Hp}
theorem dp_cut (hE : ∀ a u, H a = some u → (∃ xs, u = .tup xs) ∨ (∃ o xs, u = .frz o (.tup xs)) → E a = some u) {v : V} {d : PyData} (h : Dp K H v d) : noLs d = true → Dp K E v d := by
  refine Dp.rec (motive_1 := fun v d _ => noLs d = true → Dp K E v d) (motive_2 := fun vs ds _ => noLsA ds = true → DpAll K E vs ds) (fun _ => .non) (fun b _ => .bl b) (fun i _ => .int i) (fun z _ => .str z) ?_ ?_ (fun _ => .nil) ?_ h
  · intro a xs ds _ _ _ z
    cases z
  · intro a xs ds q _ ih z
    refine .tup ?_ (ih z)
    rcases q with (q | ⟨o, q⟩) | q
    · exact .inl (.inl (hE _ _ q (.inl ⟨_, rfl⟩)))
    · exact .inl (.inr ⟨o, hE _ _ q (.inr ⟨_, _, rfl⟩)⟩)
    · exact .inr q
  · intro v vs d ds _ _ ih1 ih2 z
    unfold noLsA at z
    rw [Bool.and_eq_true] at z
    exact .cons (ih1 z.1) (ih2 z.2)
variable {F F' : List MP} {L L' : List (Addr × HO)} {H1 H2 : Hp} {cs : List (Addr × Obj)}
theorem wo_in {Ts : List Addr} {b : Addr} (h : b ∈ Ts) : wo Ts H b = none := by
  unfold wo
  exact if_pos h
theorem S.addDp {v : V} {d : PyData} (s : S F L H) (h : Dp K H v d) (nl : noLs d = true) (hL : NoX L) : S (dtP K v d :: F) L H := by
  obtain ⟨E, h1, h2, h3⟩ := s.ex
  refine ⟨⟨wo (L.map (·.1)) H, fun a u e => ?_, fun g hg => ?_, fun p hp => wo_in (List.mem_map.mpr ⟨p, hp, rfl⟩)⟩, s.cell, s.nd⟩
  · unfold wo at e
    split at e
    · cases e
    · exact e
  · have sm : Same E (wo (L.map (·.1)) H) := fun a u e => by
      unfold wo
      rw [if_neg]
      · exact h1 a u e
      · intro z
        obtain ⟨p, hp, rfl⟩ := List.mem_map.mp z
        rw [h3 p hp] at e
        cases e
    rcases List.mem_cons.mp hg with rfl | hg
    · refine dp_cut (fun a u e hu => ?_) h nl
      unfold wo
      rw [if_neg]
      · exact e
      · intro z
        obtain ⟨p, hp, rfl⟩ := List.mem_map.mp z
        have := s.cell p hp
        rw [e] at this
        cases this
        rcases hu with ⟨xs, hu⟩ | ⟨o, xs, hu⟩
        · exact (hL p hp).2.1 _ hu
        · exact (hL p hp).2.2 _ _ hu
    · exact g.2 _ _ sm (h2 g hg)
theorem dp_subs {v : V} {d : PyData} (hc : ∀ p ∈ cs, H2 p.1 = some (ExO p.1 p.2)) (h : Dp K H2 v d) (nl : noLs d = true) : Dp K (subs H2 cs) v d := dp_cut (fun a u e hu => by
  rw [subs_ne]
  · exact e
  · intro z
    obtain ⟨p, hp, rfl⟩ := List.mem_map.mp z
    rw [hc p hp] at e
    cases e
    rcases hu with ⟨xs, hu⟩ | ⟨o, xs, hu⟩ <;> (unfold ExO at hu; cases hu)) h nl
variable {P : Program} {w : World} {mg : Str → Option Value} {base : Heap} {k : Nat} {Q : VK} {XE : XK} {sp : Sp} {d : PyData} {e : V} {l f : Addr} {fs : List Addr}
/-- the closure at f raises an error that reads as d, and changes nothing -/
def RaisesD (P : Program) (w : World) (K : PySem.W.Frag) (mg : Str → Option Value) (base : Heap) (k : Nat) (E0 : Hp) (f : Addr) (d : PyData) : Prop := ∃ o sp, E0 f = some (ExO f o) ∧ CloOk P w K mg base (L2.CX P w) k f o 0 sp ∧
  ∀ F L H Q, allP E0 ∈ F → NoX L → S F L H → (∀ v H', S (dtP K v d :: F) L H' → Q v H') → ErOut K sp H Q
abbrev dHall (p : Str) (i : Int) : PyData := .tuple [.str "hall", .tuple [.str p, .int i]]
abbrev dErr (t : Str) (i : Int) : PyData := .tuple [.str t, .int i]
/-- such a closure, by the error that it raises -/
theorem er_hall {C fI : Addr} {p : Str} {i : Int} (X : XcK K C 8) (O : OxK K C fI ["part", "index"]) (s : S F L H) (h : ∀ Q' E', (∀ d H', S (cel d (ihx p i) :: F) L H' → E' (.ref C) (some d) H') → sp [] H Q' E') (q : ∀ v H', S (dtP K v (dHall p i) :: F) L H' → Q v H') : ErOut K sp H Q :=
  .inr (.inr (.inl ⟨F, L, C, fI, .str p, .int i, X, O, h, fun q0 r H' s' => q _ _ ((s'.put_ (dtP K (.ref q0) (dHall p i)) (Ent.dtup (Ent.tup List.mem_cons_self) (Ent.dcons Ent.dstr (Ent.done (Ent.dtup (Ent.tup (List.mem_cons_of_mem _ List.mem_cons_self)) (Ent.dcons Ent.dstr (Ent.done Ent.dint))))))).mono (fun g hg => by
    rcases List.mem_cons.mp hg with rfl | hg
    · exact List.mem_cons_self
    · exact List.mem_cons_of_mem _ (List.mem_cons_of_mem _ (List.mem_cons_of_mem _ hg))) (List.Sublist.refl _))⟩))
theorem er_plain {C : Addr} {i : Nat} {tag : Str} (X : XcK K C i) (hi : i < 8) (ht : errU[i]? = some tag) (s : S F L H) (h : ∀ Q' E', (∀ H', S F L H' → E' (.ref C) none H') → sp [] H Q' E') (q : ∀ v H', S (dtP K v (dErr tag 0) :: F) L H' → Q v H') : ErOut K sp H Q :=
  .inr (.inl ⟨F, L, C, i, tag, X, hi, ht, h, fun q0 H' s' => q _ _ ((s'.put_ (dtP K (.ref q0) (dErr tag 0)) (Ent.dtup (Ent.tup List.mem_cons_self) (Ent.dcons Ent.dstr (Ent.done Ent.dint)))).mono (fun g hg => by
    rcases List.mem_cons.mp hg with rfl | hg
    · exact List.mem_cons_self
    · exact List.mem_cons_of_mem _ (List.mem_cons_of_mem _ hg)) (List.Sublist.refl _))⟩)
theorem er_field {C fI : Addr} {i : Nat} {tag g : Str} {n : Int} (X : XcK K C i) (O : OxK K C fI [g]) (hi : (i = 9 ∧ g = "line") ∨ (i = 10 ∧ g = "place") ∨ (i = 11 ∧ g = "place")) (ht : errU[i]? = some tag) (s : S F L H) (h : ∀ Q' E', (∀ d H', S (cel d (.xd [(g, .int n)]) :: F) L H' → E' (.ref C) (some d) H') → sp [] H Q' E') (q : ∀ v H', S (dtP K v (dErr tag n) :: F) L H' → Q v H') : ErOut K sp H Q :=
  .inr (.inr (.inr ⟨F, L, C, fI, i, tag, g, .int n, X, O, hi, ht, h, fun q0 H' s' => q _ _ ((s'.put_ (dtP K (.ref q0) (dErr tag n)) (Ent.dtup (Ent.tup List.mem_cons_self) (Ent.dcons Ent.dstr (Ent.done Ent.dint)))).mono (fun g hg => by
    rcases List.mem_cons.mp hg with rfl | hg
    · exact List.mem_cons_self
    · exact List.mem_cons_of_mem _ (List.mem_cons_of_mem _ hg)) (List.Sublist.refl _))⟩))
def spAllR (P : Program) (w : World) (K : PySem.W.Frag) (mg : Str → Option Value) (base : Heap) (k : Nat) : Sp := fun vs H Q _ => ∃ (E0 : Hp) (F : List MP) (L : List (Addr × HO)) (l : Addr) (e : V) (fs : List Addr) (d : PyData), vs = [.ref l, e] ∧ allP E0 ∈ F ∧ NoX L ∧ S F L H ∧ fs.length ≤ 100 ∧ liF K l (fs.map V.ref) ∈ F ∧ dtP K e d ∈ F ∧ SeqAt.shaped d = true ∧
  (∀ f ∈ fs, RaisesD P w K mg base k E0 f d) ∧ ∀ H', S F L H' → Q (.bl true) H'
theorem c_errG {o : Obj} (h : H f = some (ExO f o)) (C : CloOk P w K mg base (L2.CX P w) k f o 0 sp) (q : ErOut K sp H Q) : spErG P w K mg base k [.ref f] H Q XE := ⟨f, o, sp, rfl, h, C, q⟩
/-- one closure asked, with the captured cells -/
theorem c_errD (hS : S F L H1) (n1 : ∀ p ∈ cs, H1 p.1 = none) (nd : (cs.map (·.1)).Nodup) (nl : noLs d = true) (hL : NoX L) (R : RaisesD P w K mg base k (adds H1 cs) f d) (q : ∀ v H', S (dtP K v d :: F) L H' → Q v H') :
    spErG P w K mg base k [.ref f] (adds H1 cs) (fun v H2 => (∀ p ∈ cs, H2 p.1 = some (ExO p.1 p.2)) ∧ Q v (subs H2 cs)) XE := by
  obtain ⟨o, sp, h1, C, hR⟩ := R
  refine c_errG h1 C (hR [allP (adds H1 cs)] [] _ _ List.mem_cons_self (fun p hp => nomatch hp) (s_all _) fun v H2 s2 => ?_)
  have sm : Same (adds H1 cs) H2 := s2.phi (f := allP (adds H1 cs)) (by simp)
  have hd : Dp K H2 v d := s2.phi (f := dtP K v d) List.mem_cons_self
  have hc : ∀ p ∈ cs, H2 p.1 = some (ExO p.1 p.2) := fun p hp => sm _ _ (adds_in nd p hp)
  exact ⟨hc, q v _ ((hS.same (same_drop n1 sm)).addDp (dp_subs hc hd nl) nl hL)⟩
theorem c_allR (hS : S F L H1) (n1 : ∀ p ∈ cs, H1 p.1 = none) (nd : (cs.map (·.1)).Nodup) (hl : SqL K H1 l (fs.map V.ref)) (hz : fs.length ≤ 100) (he : Dp K H1 e d) (sh : SeqAt.shaped d = true) (R : ∀ f ∈ fs, RaisesD P w K mg base k (adds H1 cs) f d) (q : ∀ H', S F L H' → Q (.bl true) H') :
    spAllR P w K mg base k [.ref l, e] (adds H1 cs) (fun v H2 => (∀ p ∈ cs, H2 p.1 = some (ExO p.1 p.2)) ∧ Q v (subs H2 cs)) XE := by
  have s0 : S [liF K l (fs.map V.ref), dtP K e d, allP (adds H1 cs)] [] (adds H1 cs) :=
    ((s_all _).put_ (dtP K e d) (fun E z => dpM (z (allP (adds H1 cs)) List.mem_cons_self) (dpM (same_adds n1) he))).put_ (liF K l (fs.map V.ref)) (fun E z => sqL_mono (z (allP (adds H1 cs)) (List.mem_cons_of_mem _ List.mem_cons_self)) (sqL_mono (same_adds n1) hl))
  refine ⟨adds H1 cs, _, [], l, e, fs, d, rfl, by simp, (fun p hp => nomatch hp), s0, hz, by simp, by simp, sh, R, fun H2 s2 => ?_⟩
  have sm : Same (adds H1 cs) H2 := s2.phi (f := allP (adds H1 cs)) (by simp)
  exact ⟨fun p hp => sm _ _ (adds_in nd p hp), q _ (hS.same (same_drop n1 sm))⟩
/-! a closure that raises: the maker's facts are there, and nothing is changed -/
section
variable {q : Str} {c dt C : Addr} {n : Int} {cl : List (Str × Addr)} {ns : List Str} {tb : XK → TE} {ws : List V} {gs : List (Str × V)} {Q0 : VK} {E : XK}
theorem clo_core (hS : S F L H1) (n1 : ∀ p ∈ cs, H1 p.1 = none) (nd : (cs.map (·.1)).Nodup) (s : S F' L' H) (m : allP (adds H1 cs) ∈ F') (hL : NoX L')
    (htb : ∀ (H0 : Hp) (Q' : VK) (E' : XK), S (allP H0 :: F) [] H0 → Same H1 H0 → (∀ d H2, S (cel d (.xd gs) :: allP H0 :: F) [] H2 → E' (.ref C) (some d) H2) → tb E' (ws.map some) H0 Q') (hE : ∀ d H', S (cel d (.xd gs) :: F') L' H' → E (.ref C) (some d) H') :
    tb (fun cls d H2 => (∀ p ∈ cs, H2 p.1 = none) → E cls d (adds H2 cs)) (ws.map some) (subs H cs) (fun v H2 => (∀ p ∈ cs, H2 p.1 = none) → Q0 v (adds H2 cs)) := by
  have hm : Same (adds H1 cs) H := s.phi m
  have hx : ∀ p ∈ cs, H p.1 = some (ExO p.1 p.2) := fun p hp => hm _ _ (adds_in nd p hp)
  have s0 : S F L (subs H cs) := hS.same (same_drop n1 hm)
  have s1 : S (allP (subs H cs) :: F) [] (subs H cs) := ⟨⟨_, Same.refl _, fun g hg => by
    rcases List.mem_cons.mp hg with rfl | hg
    · exact Same.refl _
    · exact s0.phi hg, fun p hp => (nomatch hp)⟩, fun p hp => (nomatch hp), List.nodup_nil⟩
  refine htb _ _ _ s1 (same_drop n1 hm) fun d H2 s2 hn => hE d _ ?_
  have sm2 : Same H (adds H2 cs) := same_back hx (s2.phi (f := allP (subs H cs)) (by simp))
  have hd : H2 d = some (.xd gs) := s2.phi (f := cel d (.xd gs)) List.mem_cons_self
  have hdc : d ∉ cs.map (·.1) := fun z => by
    obtain ⟨p, hp, e⟩ := List.mem_map.mp z
    have := hn p hp
    rw [e, hd] at this
    cases this
  have hd2 : adds H2 cs d = some (.xd gs) := by rw [adds_ne hdc]; exact hd
  refine (s.same sm2).addC hd2 fun z => ?_
  obtain ⟨p, hp, e⟩ := List.mem_map.mp z
  have := (s.same sm2).cell p hp
  rw [e, hd2] at this
  exact (hL p hp).1 _ (Option.some.inj this).symm
theorem spClo_ofE (hS : S F L H1) (hc : cel c (CodeO c q) ∈ F) (n1 : ∀ p ∈ cs, H1 p.1 = none) (nd : (cs.map (·.1)).Nodup) (lw : ws.length = ns.length)
    (hcap : ∀ (i : Nat) y, ns[i]? = some y → ∃ p ∈ cs, ∃ w u, cl.lookup y = some p.1 ∧ ws[i]? = some w ∧ RelV w u ∧ p.2.data = .cell (some u)) (s : S F' L' H) (m : allP (adds H1 cs) ∈ F') (hL : NoX L')
    (htb : ∀ (H0 : Hp) (Q' : VK) (E' : XK), S (allP H0 :: F) [] H0 → Same H1 H0 → (∀ d H2, S (cel d (.xd gs) :: allP H0 :: F) [] H2 → E' (.ref C) (some d) H2) → tb E' (ws.map some) H0 Q') (hE : ∀ d H', S (cel d (.xd gs) :: F') L' H' → E (.ref C) (some d) H') : spClo q c cl ns tb 0 [] H Q0 E := by
  have hm : Same (adds H1 cs) H := s.phi m
  have c1 : H1 c = some (CodeO c q) := hS.phi hc
  refine ⟨rfl, ws, cs, hm _ _ (same_adds n1 _ _ c1), fun z => ?_, fun p hp => hm _ _ (adds_in nd p hp), lw, hcap, clo_core hS n1 nd s m hL htb hE⟩
  obtain ⟨p, hp, e⟩ := List.mem_map.mp z
  have := n1 p hp
  rw [e, c1] at this
  cases this
theorem spCloD_ofE (hS : S F L H1) (hc : cel c (CodeO c q) ∈ F) (hdt : cel dt (.tup [.int n]) ∈ F) (n1 : ∀ p ∈ cs, H1 p.1 = none) (nd : (cs.map (·.1)).Nodup) (lw : ws.length = ns.length)
    (hcap : ∀ (i : Nat) y, ns[i]? = some y → ∃ p ∈ cs, ∃ w u, cl.lookup y = some p.1 ∧ ws[i]? = some w ∧ RelV w u ∧ p.2.data = .cell (some u)) (s : S F' L' H) (m : allP (adds H1 cs) ∈ F') (hL : NoX L')
    (htb : ∀ (H0 : Hp) (Q' : VK) (E' : XK), S (allP H0 :: F) [] H0 → Same H1 H0 → (∀ d H2, S (cel d (.xd gs) :: allP H0 :: F) [] H2 → E' (.ref C) (some d) H2) → tb E' ((.int n :: ws).map some) H0 Q') (hE : ∀ d H', S (cel d (.xd gs) :: F') L' H' → E (.ref C) (some d) H') : spCloD q c dt n cl ns tb [] H Q0 E := by
  have hm : Same (adds H1 cs) H := s.phi m
  have c1 : H1 c = some (CodeO c q) := hS.phi hc
  have d1 : H1 dt = some (.tup [.int n]) := hS.phi hdt
  refine ⟨rfl, hm _ _ (same_adds n1 _ _ d1), ws, cs, hm _ _ (same_adds n1 _ _ c1), fun z => ?_, fun p hp => hm _ _ (adds_in nd p hp), lw, hcap, clo_core (ws := .int n :: ws) hS n1 nd s m hL htb hE⟩
  obtain ⟨p, hp, e⟩ := List.mem_map.mp z
  have := n1 p hp
  rw [e, c1] at this
  cases this
/-- the closure at work -/
theorem cloD_at {CX : CXT} {a : Str} {scope : Scope} {f : Addr} {params : Arguments} {body : Expr} {cells : List (Str × Addr)} {doc pm ctv : Value} {k : Nat} (a : Str) (ns : List Str) (cx : CxAdds CX) (hs : sp = spCloD q c dt n (cloFrom cells scope.names []) ns tb) (L : LamN [a] ns scope) (hfree : ∀ y ∈ ns, ∃ c, cells.lookup y = some c) (inj : ∀ x y c, cells.lookup x = some c → cells.lookup y = some c → x = y)
    (hbind : ∀ v : Value, ∃ k, bindArgs (PySem.W.kdv_fn "<lambda>" q params (.expr body) scope (cloFrom cells scope.names []) (.ref dt) doc pm (.ref c) ctv) ⟨[], []⟩ = seqItems? (.ref dt) >>= k ∧ k (some #[v]) = pure [(a, v)])
    (hbody : ∀ (A : Around) (outer : List Env) (s : Shared) (H : Hp) (E : XK), Room k (A.deeper (PySem.W.envX q scope s.heap.objs.size f (.ref c) (cloFrom cells scope.names []))) → PE (lamCx CX P w K mg base ([a] ++ ns) q scope f c (cloFrom cells scope.names []) A outer s H E) body (tb E)) :
    CloOk P w K mg base CX (k + 1) f (lamD q params body scope cells dt doc c pm ctv) 0 sp := by
  subst hs
  exact cloD_of cx L hfree inj hbind hbody
end
/-- which part of a hall is not valid -/
inductive PB (K : PySem.W.Frag) (F : List MP) : Int → V → V → V → V → Int → Prop where
  | m {m t c l : V} {n : String} (h : Ent F (tyP K m n)) (hn : n ∈ kinds) (b : isIn m 2 10000 = false) : PB K F 0 m t c l 0
  | t {m i : Int} {t c l : V} (h0 : 2 ≤ m) (h1 : m ≤ 10000) (b : BadEn K F t i) : PB K F 1 (.int m) t c l i
  | c {m i : Int} {t c l : V} (h0 : 2 ≤ m) (h1 : m ≤ 10000) (g : GoodEn K F t) (b : BadEn K F c i) : PB K F 2 (.int m) t c l i
  | l {m : Int} {t c l : V} {n : String} (h0 : 2 ≤ m) (h1 : m ≤ 10000) (g : GoodEn K F t) (g2 : GoodEn K F c) (h : Ent F (tyP K l n)) (hn : n ∈ kinds) (b : isIn l 0 99 = false) : PB K F 3 (.int m) t c l 0
theorem x_rep1 {H : Hp} {Q : VK} {F : List MP} {L : List (Addr × HO)} {p : Addr} {v : V} {j : Int} (s : S F L H) (e : Ent F (tuF K p [v])) (h0 : 2 ≤ j) (h1 : j ≤ 100) (k : ∀ r H1, S (tuF K r (List.replicate j.toNat v) :: F) L H1 → Q (.ref r) H1) : rMulA K (.ref p) (.int j) H Q := by
  refine .inr (.inr ⟨p, j, [v], rfl, rfl, s.ent e, (fun z => by cases z), by omega, by omega, Nat.le_of_ble_eq_true rfl, fun r hr => ?_⟩)
  have e2 : (List.replicate j.toNat [v]).flatten = List.replicate j.toNat v := by
    generalize j.toNat = n
    induction n with
    | zero => rfl
    | succ n ih => rw [List.replicate_succ, List.flatten_cons, ih, List.replicate_succ]; rfl
  rw [e2]
  exact k r _ (((s.newF hr).put_ (tuF K r (List.replicate j.toNat v)) (Ent.tup List.mem_cons_self)).sub ((List.sublist_cons_self _ _).cons_cons _) (List.Sublist.refl _))
end
end TW
namespace TW
open PySem PySem.Spec PyProof.Rows L2 LamX
/-! ### a tuple times one: the tuple itself -/
theorem tuple_mul1 (l : Addr) (items : Array Value) (n : Nat) (dd : Option Addr) (sl : Array (Option Value)) (u : Tok) :
    Meets (Builtin.«tuple.__mul__» ⟨[.ref l, .int 1 u], []⟩) (fun _ R s => s.heap.get? l = some { cls := .type "tuple", dict := dd, data := .seq items n, slots := sl } ∧ R (.ok (.ret (Value.ref l))) s) :=
  .of_wp fun prog w A R s h => by
    obtain ⟨hp, g, d, tk, os⟩ := s
    obtain ⟨hl, h⟩ := h
    have f1 := AutoSeq1.idx_int
    have c1 : (items.isEmpty || (1 : Int) == 1) = true := by rw [show ((1 : Int) == 1) = true from rfl, Bool.or_true]
    wp_walk using wpAny_loadPart' hl
    exact ⟨_, rfl, h⟩
def rRep1 (K : PySem.W.Frag) : R2 := fun x y H Q => ∃ l xs, x = .ref l ∧ y = .int 1 ∧ SqT K H l xs ∧ Q (.ref l) H
section
variable {X : Cx}
theorem op_rep1 : OpR X (binaryOp .Mult) (rRep1 X.K) := by
  intro pins s σ H x y v u Q I rx ry h
  obtain ⟨l, xs, rfl, rfl, hT, q⟩ := h
  cases rx
  obtain ⟨t, rfl⟩ := ry
  obtain ⟨its, r, ⟨⟨cls, dd, data, sl⟩, ho, hc, n, hd⟩, hs⟩ := I.tuple hT
  simp only at hc hd
  subst hc hd
  exact wpAny_binaryOp_repeat_ref (T := "tuple") (U := "int") (by decide) ⟨_, ho, rfl⟩ (fun s' => typeIs_int s' 1 t) noFill_tuple_mul PySem.F.fills_int_mul PySem.F.slot_int_rmul repeat_tuple PySem.F.slot_int_index.lookup
    (call_meets PySem.F.slot_int_rmul (typeIs_int s 1 t) PySem.F.entry_int_rmul (PySem.F.args_int_rmul_2 _ _) (int_rmul_tuple 1 t l its.toArray n dd sl)
      ⟨ho, rfl, ⟨_, ho, rfl⟩, call_meets PySem.F.slot_tuple_mul ⟨_, ho, rfl⟩ PySem.F.entry_tuple_mul (PySem.F.args_tuple_mul_2 _ _) (tuple_mul1 l its.toArray n dd sl t) ⟨ho, ⟨.ref l, H, I, rfl, q⟩⟩⟩)
end
def rMulU (K : PySem.W.Frag) : R2 := fun x y H Q => rRepT K x y H Q ∨ rRep1 K x y H Q
theorem d_mulU (K) {X : Cx} {a b : Expr} {pos : Pos} {ta tb : TE} (ha : PE X a ta) (hb : PE X b tb) (hK : X.K = K := by rfl) : PE X (.BinOp a .Mult b pos) (tOp (rMulU K) ta tb) := by
  subst hK; exact pe_op (op_repT.or op_rep1) ha hb
theorem x_mulU {K : PySem.W.Frag} {H : Hp} {Q : VK} {F : List MP} {L : List (Addr × HO)} {p : Addr} {v : V} {j : Int} (s : S F L H) (e : Ent F (tuF K p [v])) (h0 : 1 ≤ j) (h1 : j ≤ 100) (k : ∀ r H1, S (tuF K r (List.replicate j.toNat v) :: F) L H1 → Q (.ref r) H1) : rMulU K (.ref p) (.int j) H Q := by
  by_cases hj : j = 1
  · subst hj
    exact .inr ⟨p, [v], rfl, rfl, s.ent e, k p _ (s.put_ (tuF K p (List.replicate 1 v)) e)⟩
  · refine .inl ⟨p, j, [v], rfl, rfl, s.ent e, (fun z => by cases z), by omega, by omega, Nat.le_of_ble_eq_true rfl, fun r hr => ?_⟩
    have e2 : (List.replicate j.toNat [v]).flatten = List.replicate j.toNat v := by
      generalize j.toNat = n
      induction n with
      | zero => rfl
      | succ n ih => rw [List.replicate_succ, List.flatten_cons, ih, List.replicate_succ]; rfl
    rw [e2]
    exact k r _ (((s.newF hr).put_ (tuF K r (List.replicate j.toNat v)) (Ent.tup List.mem_cons_self)).sub ((List.sublist_cons_self _ _).cons_cons _) (List.Sublist.refl _))
section
variable {K : PySem.W.Frag} {F : List MP} {p : Addr} {wr : V} {n : String} {at_ j : Int} {xs : List Int}
theorem bad_item (hx : ∀ y ∈ xs, 0 ≤ y ∧ y ≤ 9) (a0 : 0 ≤ at_) (a1 : at_ ≤ xs.length) (hl : xs.length ≤ 12) (h : Ent F (tuF K p ((xs.map V.int).take at_.toNat ++ [wr, .non]))) (ty : Ent F (tyP K wr n)) (hn : n ∈ kinds) (b : isIn wr 0 9 = false) : BadEn K F (.ref p) at_ := by
  have e : ((at_.toNat : Nat) : Int) = at_ := by omega
  have hlt : ((xs.map V.int).take at_.toNat).length = at_.toNat := by
    rw [List.length_take, List.length_map]
    omega
  rw [← e]
  refine .item (i := at_.toNat) h (fun k v hk hv => ?_) ?_ ty hn (.inr b) (by omega)
  · rw [List.getElem?_append_left (by rw [hlt]; exact hk), List.getElem?_take_of_lt hk, List.getElem?_map] at hv
    obtain ⟨z, hz, rfl⟩ := Option.map_eq_some_iff.mp hv
    exact decide_eq_true (hx z (List.mem_of_getElem? hz))
  · rw [List.getElem?_append_right (by omega), hlt, Nat.sub_self]
    rfl
theorem bad_long (h : Ent F (tuF K p (List.replicate (Int.toNat 12) (.int 0) ++ List.replicate j.toNat (.int 1)))) (h1 : 1 ≤ j) : BadEn K F (.ref p) 12 := by
  have h : Ent F (tuF K p (List.replicate 12 (.int 0) ++ List.replicate j.toNat (.int 1))) := h
  refine .item (i := 12) (x := .int 1) (n := "int") h (fun k v hk hv => ?_) ?_ (fun _ _ => ty_int) (by simp [kinds]) (.inl rfl) (by decide)
  · rw [List.getElem?_append_left (by simpa using hk), List.getElem?_replicate, if_pos hk] at hv
    cases hv
    rfl
  · rw [List.getElem?_append_right (by simp), List.getElem?_replicate, if_pos (by simp; omega)]
theorem bad_list {xs : List V} (h : cel p (.lst xs) ∈ F) : BadEn K F (.ref p) 0 := .kind (n := "list") (fun E e => .base (.lst (e _ h))) (by simp [kinds]) (by decide)
theorem bad_int {i : Int} : BadEn K F (.int i) 0 := .kind (n := "int") (fun _ _ => ty_int) (by simp [kinds]) (by decide)
theorem bad_non : BadEn K F .non 0 := .kind (n := "NoneType") (fun _ _ => ty_non) (by simp [kinds]) (by decide)
theorem bad_str {z : Str} : BadEn K F (.str z) 0 := .kind (n := "str") (fun _ _ => ty_str) (by simp [kinds]) (by decide)
end
def nmOf (p : Int) : Str := if p = 0 then "modulus" else if p = 1 then "takes" else if p = 2 then "calls" else "lateness"
theorem BadH.nm {K : PySem.W.Frag} {F : List MP} {m t c l : V} {nm : Str} {i : Int} (h : BadH K F m t c l nm i) : PyData.strOk nm = true := by
  cases h <;> decide +kernel
theorem sh_hall {nm : Str} {i : Int} (h : PyData.strOk nm = true) : SeqAt.shaped (dHall nm i) = true := by
  simp [SeqAt.shaped, PyData.canLay0, PyData.canLayAll0, PyData.depth, PyData.depthAll, h]
  try decide +kernel
end TW
namespace TW
open PySem PySem.Spec PyProof.Rows L2 LamX
/-! ### closures that raise: all kinds of errors by one word -/
/-- what raising asks of the end -/
def ErE (F : List MP) (L : List (Addr × HO)) (C : Addr) (gs : Option (List (Str × V))) (E : XK) : Prop := match gs with
  | none => ∀ H', S F L H' → E (.ref C) none H'
  | some g => ∀ d H', S (cel d (.xd g) :: F) L H' → E (.ref C) (some d) H'
inductive ErK (K : PySem.W.Frag) : Addr → Option (List (Str × V)) → PyData → Prop where
  | hall {C fI : Addr} {p : Str} {i : Int} (X : XcK K C 8) (O : OxK K C fI ["part", "index"]) : ErK K C (some [("index", .int i), ("part", .str p)]) (dHall p i)
  | plain {C : Addr} {i : Nat} {tag : Str} (X : XcK K C i) (hi : i < 8) (ht : errU[i]? = some tag) : ErK K C none (dErr tag 0)
  | field {C fI : Addr} {i : Nat} {tag g : Str} {n : Int} (X : XcK K C i) (O : OxK K C fI [g]) (hi : (i = 9 ∧ g = "line") ∨ (i = 10 ∧ g = "place") ∨ (i = 11 ∧ g = "place")) (ht : errU[i]? = some tag) : ErK K C (some [(g, .int n)]) (dErr tag n)
section
variable {P : Program} {w : World} {K : PySem.W.Frag} {mg : Str → Option Value} {base : Heap} {F F' : List MP} {L L' : List (Addr × HO)} {H H1 : Hp} {cs : List (Addr × Obj)} {Q Q0 : VK} {E : XK} {sp : Sp} {d : PyData} {f c C dt : Addr} {gs : Option (List (Str × V))} {q : Str} {o : Obj} {n : Int} {ws : List V} {ns : List Str} {tb : XK → TE} {kk : Nat}
theorem er_out (k : ErK K C gs d) (s : S F L H) (h : ∀ Q' E', ErE F L C gs E' → sp [] H Q' E') (q : ∀ v H', S (dtP K v d :: F) L H' → Q v H') : ErOut K sp H Q := by
  cases k with
  | hall X O => exact er_hall X O s h q
  | plain X hi ht => exact er_plain X hi ht s h q
  | field X O hi ht => exact er_field X O hi ht s h q
theorem clo_coreG (hS : S F L H1) (n1 : ∀ p ∈ cs, H1 p.1 = none) (nd : (cs.map (·.1)).Nodup) (s : S F' L' H) (m : allP (adds H1 cs) ∈ F') (hL : NoX L')
    (htb : ∀ (H0 : Hp) (Q' : VK) (E' : XK), S (allP H0 :: F) [] H0 → Same H1 H0 → ErE (allP H0 :: F) [] C gs E' → tb E' (ws.map some) H0 Q') (hE : ErE F' L' C gs E) :
    tb (fun cls d H2 => (∀ p ∈ cs, H2 p.1 = none) → E cls d (adds H2 cs)) (ws.map some) (subs H cs) (fun v H2 => (∀ p ∈ cs, H2 p.1 = none) → Q0 v (adds H2 cs)) := by
  cases gs with
  | some g => exact clo_core hS n1 nd s m hL htb hE
  | none =>
    have hm : Same (adds H1 cs) H := s.phi m
    have hx : ∀ p ∈ cs, H p.1 = some (ExO p.1 p.2) := fun p hp => hm _ _ (adds_in nd p hp)
    have s0 : S F L (subs H cs) := hS.same (same_drop n1 hm)
    have s1 : S (allP (subs H cs) :: F) [] (subs H cs) := ⟨⟨_, Same.refl _, fun g hg => by
      rcases List.mem_cons.mp hg with rfl | hg
      · exact Same.refl _
      · exact s0.phi hg, fun p hp => (nomatch hp)⟩, fun p hp => (nomatch hp), List.nodup_nil⟩
    refine htb _ _ _ s1 (same_drop n1 hm) fun H2 s2 hn => hE _ (s.same (same_back hx (s2.phi (f := allP (subs H cs)) List.mem_cons_self)))
theorem spClo_ofG (hS : S F L H1) (hc : cel c (CodeO c q) ∈ F) (n1 : ∀ p ∈ cs, H1 p.1 = none) (nd : (cs.map (·.1)).Nodup) (lw : ws.length = ns.length) {cl : List (Str × Addr)}
    (hcap : ∀ (i : Nat) y, ns[i]? = some y → ∃ p ∈ cs, ∃ w u, cl.lookup y = some p.1 ∧ ws[i]? = some w ∧ RelV w u ∧ p.2.data = .cell (some u)) (s : S F' L' H) (m : allP (adds H1 cs) ∈ F') (hL : NoX L')
    (htb : ∀ (H0 : Hp) (Q' : VK) (E' : XK), S (allP H0 :: F) [] H0 → Same H1 H0 → ErE (allP H0 :: F) [] C gs E' → tb E' (ws.map some) H0 Q') (hE : ErE F' L' C gs E) : spClo q c cl ns tb 0 [] H Q0 E := by
  have hm : Same (adds H1 cs) H := s.phi m
  have c1 : H1 c = some (CodeO c q) := hS.phi hc
  refine ⟨rfl, ws, cs, hm _ _ (same_adds n1 _ _ c1), fun z => ?_, fun p hp => hm _ _ (adds_in nd p hp), lw, hcap, clo_coreG hS n1 nd s m hL htb hE⟩
  obtain ⟨p, hp, e⟩ := List.mem_map.mp z
  have := n1 p hp
  rw [e, c1] at this
  cases this
theorem spCloD_ofG (hS : S F L H1) (hc : cel c (CodeO c q) ∈ F) (hdt : cel dt (.tup [.int n]) ∈ F) (n1 : ∀ p ∈ cs, H1 p.1 = none) (nd : (cs.map (·.1)).Nodup) (lw : ws.length = ns.length) {cl : List (Str × Addr)}
    (hcap : ∀ (i : Nat) y, ns[i]? = some y → ∃ p ∈ cs, ∃ w u, cl.lookup y = some p.1 ∧ ws[i]? = some w ∧ RelV w u ∧ p.2.data = .cell (some u)) (s : S F' L' H) (m : allP (adds H1 cs) ∈ F') (hL : NoX L')
    (htb : ∀ (H0 : Hp) (Q' : VK) (E' : XK), S (allP H0 :: F) [] H0 → Same H1 H0 → ErE (allP H0 :: F) [] C gs E' → tb E' ((.int n :: ws).map some) H0 Q') (hE : ErE F' L' C gs E) : spCloD q c dt n cl ns tb [] H Q0 E := by
  have hm : Same (adds H1 cs) H := s.phi m
  have c1 : H1 c = some (CodeO c q) := hS.phi hc
  have d1 : H1 dt = some (.tup [.int n]) := hS.phi hdt
  refine ⟨rfl, hm _ _ (same_adds n1 _ _ d1), ws, cs, hm _ _ (same_adds n1 _ _ c1), fun z => ?_, fun p hp => hm _ _ (adds_in nd p hp), lw, hcap, clo_coreG (ws := .int n :: ws) hS n1 nd s m hL htb hE⟩
  obtain ⟨p, hp, e⟩ := List.mem_map.mp z
  have := n1 p hp
  rw [e, c1] at this
  cases this
variable {scope : Scope} {params : Arguments} {body : Expr} {cells : List (Str × Addr)} {pm ctv doc : Value}
/-- a lambda without parameters that raises -/
theorem raisesL {q2 : Str} (hq : q = q2) (ho : lamO q params body scope cells c pm ctv = o) (hS : S F L H1) (mf : cel f (ExO f o) ∈ F) (mc : cel c (CodeO c q2) ∈ F) (n1 : ∀ p ∈ cs, H1 p.1 = none) (nd : (cs.map (·.1)).Nodup) (k : ErK K C gs d) (ns : List Str) (ws : List V) (lw : ws.length = ns.length)
    (N : LamN [] ns scope) (hfree : ∀ y ∈ ns, ∃ c, cells.lookup y = some c) (inj : ∀ x y c, cells.lookup x = some c → cells.lookup y = some c → x = y)
    (hbind : ∀ us : List Value, us.length = ([] : List Str).length → bindArgs (PySem.W.kla_fn "<lambda>" q params body scope (cloFrom cells scope.names []) pm (.ref c) ctv) ⟨us, []⟩ = pure (([] : List Str).zip us))
    (hcap : ∀ (i : Nat) y, ns[i]? = some y → ∃ p ∈ cs, ∃ w u, (cloFrom cells scope.names []).lookup y = some p.1 ∧ ws[i]? = some w ∧ RelV w u ∧ p.2.data = .cell (some u))
    (hbody : ∀ (A : Around) (outer : List Env) (s : Shared) (H : Hp) (E : XK), Room kk (A.deeper (PySem.W.envX q scope s.heap.objs.size f (.ref c) (cloFrom cells scope.names []))) → PE (lamCx (L2.CX P w) P w K mg base ([] ++ ns) q scope f c (cloFrom cells scope.names []) A outer s H E) body (tb E))
    (htb : ∀ (H0 : Hp) (Q' : VK) (E' : XK), S (allP H0 :: F) [] H0 → Same H1 H0 → ErE (allP H0 :: F) [] C gs E' → tb E' (ws.map some) H0 Q') : RaisesD P w K mg base (kk + 1) (adds H1 cs) f d := by
  subst ho
  subst hq
  refine ⟨_, _, same_adds n1 _ _ (hS.phi mf), clo_at [] ns cxAdds1 rfl rfl N hfree inj hbind hbody, fun F L H Q m hL s q => ?_⟩
  exact er_out k s (fun Q' E' hE => spClo_ofG hS mc n1 nd lw hcap s m hL htb hE) q
/-- a lambda with one default that raises -/
theorem raisesLD {q2 : Str} (a : Str) (hq : q = q2) (ho : lamD q params body scope cells dt doc c pm ctv = o) (hS : S F L H1) (mf : cel f (ExO f o) ∈ F) (mc : cel c (CodeO c q2) ∈ F) (md : cel dt (.tup [.int n]) ∈ F) (n1 : ∀ p ∈ cs, H1 p.1 = none) (nd : (cs.map (·.1)).Nodup) (k : ErK K C gs d) (ns : List Str) (ws : List V) (lw : ws.length = ns.length)
    (N : LamN [a] ns scope) (hfree : ∀ y ∈ ns, ∃ c, cells.lookup y = some c) (inj : ∀ x y c, cells.lookup x = some c → cells.lookup y = some c → x = y)
    (hbind : ∀ v : Value, ∃ k, bindArgs (PySem.W.kdv_fn "<lambda>" q params (.expr body) scope (cloFrom cells scope.names []) (.ref dt) doc pm (.ref c) ctv) ⟨[], []⟩ = seqItems? (.ref dt) >>= k ∧ k (some #[v]) = pure [(a, v)])
    (hcap : ∀ (i : Nat) y, ns[i]? = some y → ∃ p ∈ cs, ∃ w u, (cloFrom cells scope.names []).lookup y = some p.1 ∧ ws[i]? = some w ∧ RelV w u ∧ p.2.data = .cell (some u))
    (hbody : ∀ (A : Around) (outer : List Env) (s : Shared) (H : Hp) (E : XK), Room kk (A.deeper (PySem.W.envX q scope s.heap.objs.size f (.ref c) (cloFrom cells scope.names []))) → PE (lamCx (L2.CX P w) P w K mg base ([a] ++ ns) q scope f c (cloFrom cells scope.names []) A outer s H E) body (tb E))
    (htb : ∀ (H0 : Hp) (Q' : VK) (E' : XK), S (allP H0 :: F) [] H0 → Same H1 H0 → ErE (allP H0 :: F) [] C gs E' → tb E' ((.int n :: ws).map some) H0 Q') : RaisesD P w K mg base (kk + 1) (adds H1 cs) f d := by
  subst ho
  subst hq
  refine ⟨_, _, same_adds n1 _ _ (hS.phi mf), cloD_at (n := n) (a := a) a ns cxAdds1 rfl N hfree inj hbind hbody, fun F L H Q m hL s q => ?_⟩
  exact er_out k s (fun Q' E' hE => spCloD_ofG hS mc md n1 nd lw hcap s m hL htb hE) q
end
/-- the cells that a call is handed, one by one -/
theorem CapsAt.un {σ : Sl} {i : Nat} {c : Addr} {r : List (Nat × Addr)} {cs : List (Addr × Obj)} {v : V} (h : CapsAt σ ((i, c) :: r) cs) (e : σ[i]? = some (some v)) : ∃ o s u, cs = (c, o) :: s ∧ o.data = .cell (some u) ∧ RelV v u ∧ CapsAt σ r s := by
  cases h with
  | cons h1 h2 =>
    obtain ⟨v', u, e1, e2, e3⟩ := h1
    rw [e] at e1
    cases e1
    exact ⟨_, _, u, rfl, e2, e3, h2⟩
theorem CapsAt.done {σ : Sl} {cs : List (Addr × Obj)} (h : CapsAt σ [] cs) : cs = [] := by
  cases h; rfl
/-! a lambda is made, its name told short -/
section
variable {P : Program} {w : World} {K : PySem.W.Frag} {mg : Str → Option Value} {base : Heap} {F : List MP} {L : List (Addr × HO)} {H H1 : Hp} {Q : VK} {q : Str} {T : Addr} {ps : Array Value} {σ : Sl} {n : Int}
theorem x_lamS {mk : Addr → Value → Value → Obj} (q2 : Str) (hq : q = q2) (s : S F ((T, .tbl ps) :: L) H) (m : tcP q2 ps ∈ F)
    (k : ∀ (ps' : Array Value) (c f : Addr) (pm ctv : Value) (O : Obj) (H' : Hp), mk c pm ctv = O → S (cel f (ExO f O) :: cel c (CodeO c q2) :: tcP q2 ps' :: F) ((T, .tbl ps') :: L) H' → Q (.ref f) H') : tLamV T q mk σ H Q := by
  subst hq
  exact x_lam s m fun ps' c f pm ctv H' s' => k ps' c f pm ctv _ H' rfl s'
theorem x_lamDS {mk : Addr → Value → Addr → Value → Value → Obj} (q2 : Str) (hq : q = q2) (s : S F ((T, .tbl ps) :: L) H) (m : tcP q2 ps ∈ F)
    (k : ∀ (dt : Addr) (doc : Value) (ps' : Array Value) (c f : Addr) (pm ctv : Value) (O : Obj) (H' : Hp), mk dt doc c pm ctv = O → S (cel f (ExO f O) :: cel c (CodeO c q2) :: tcP q2 ps' :: cel dt (.tup [.int n]) :: F) ((T, .tbl ps') :: L) H' → Q (.ref f) H') : tLamD T q n mk σ H Q := by
  subst hq
  exact x_lamD s m fun dt doc ps' c f pm ctv H' s' => k dt doc ps' c f pm ctv _ H' rfl s'
/-! a call that is handed closures, held -/
def kCallC (caps : List (Nat × Addr)) (sp : Sp) (σ : Sl) (vs : List V) (H1 : Hp) (Q : VK) : Prop := (∀ p ∈ caps, ∃ v, σ[p.1]? = some (some v)) ∧ ∀ cs, CapsAt σ caps cs → (∀ p ∈ cs, H1 p.1 = none) →
  sp vs (adds H1 cs) (fun v H2 => (∀ p ∈ cs, H2 p.1 = some (ExO p.1 p.2)) ∧ Q v (subs H2 cs)) fun _ _ _ => False
variable {caps : List (Nat × Addr)} {sp : Sp} {t : TA} {d : PyData} {k : Nat} {f l : Addr} {fs : List Addr} {e : V}
theorem r_callK (h : t σ H fun vs H1 => kCallC caps sp σ vs H1 Q) : tCallC caps sp t σ H Q := h
theorem CapsAt.keys : ∀ {caps : List (Nat × Addr)} {cs : List (Addr × Obj)}, CapsAt σ caps cs → cs.map (·.1) = caps.map (·.2)
  | _, _, .nil => rfl
  | _, _, .cons _ h => by rw [List.map_cons, List.map_cons, CapsAt.keys h]
theorem k_errD (hS : S F L H1) (hσ : ∀ p ∈ caps, ∃ v, σ[p.1]? = some (some v)) (nd : (caps.map (·.2)).Nodup) (nl : noLs d = true) (hL : NoX L)
    (R : ∀ cs, CapsAt σ caps cs → (∀ p ∈ cs, H1 p.1 = none) → (cs.map (·.1)).Nodup → RaisesD P w K mg base k (adds H1 cs) f d) (q : ∀ v H', S (dtP K v d :: F) L H' → Q v H') : kCallC caps (spErG P w K mg base k) σ [.ref f] H1 Q :=
  ⟨hσ, fun cs hcs hn => c_errD hS hn (by rw [hcs.keys]; exact nd) nl hL (R cs hcs hn (by rw [hcs.keys]; exact nd)) q⟩
theorem k_allR (hS : S F L H1) (hσ : ∀ p ∈ caps, ∃ v, σ[p.1]? = some (some v)) (nd : (caps.map (·.2)).Nodup) (hl : SqL K H1 l (fs.map V.ref)) (hz : fs.length ≤ 100) (he : Dp K H1 e d) (sh : SeqAt.shaped d = true)
    (R : ∀ cs, CapsAt σ caps cs → (∀ p ∈ cs, H1 p.1 = none) → (cs.map (·.1)).Nodup → ∀ f ∈ fs, RaisesD P w K mg base k (adds H1 cs) f d) (q : ∀ H', S F L H' → Q (.bl true) H') : kCallC caps (spAllR P w K mg base k) σ [.ref l, e] H1 Q :=
  ⟨hσ, fun cs hcs hn => c_allR hS hn (by rw [hcs.keys]; exact nd) hl hz he sh (R cs hcs hn (by rw [hcs.keys]; exact nd)) q⟩
theorem sh_dErr {tag : Str} {i : Int} (hs : PyData.strOk tag = true) : SeqAt.shaped (dErr tag i) = true := by
  simp [SeqAt.shaped, PyData.canLay0, PyData.canLayAll0, PyData.depth, PyData.depthAll, hs]
theorem S.dErr {p : Addr} {tag : Str} {i : Int} (s : S F L H) (h : cel p (.tup [.str tag, .int i]) ∈ F) : Dp K H (.ref p) (dErr tag i) := s.ent (Ent.dtup (Ent.tup h) (Ent.dcons Ent.dstr (Ent.done Ent.dint)))
theorem S.dHall {p r : Addr} {nm : Str} {i : Int} (s : S F L H) (h : cel p (.tup [.str "hall", .ref r]) ∈ F) (h2 : cel r (.tup [.str nm, .int i]) ∈ F) : Dp K H (.ref p) (dHall nm i) := s.ent (Ent.dtup (Ent.tup h) (Ent.dcons Ent.dstr (Ent.done (Ent.dtup (Ent.tup h2) (Ent.dcons Ent.dstr (Ent.done Ent.dint))))))
end
end TW
namespace TW
open PySem PySem.Spec PyProof.Rows L2
/-! ### halls whose displays repeat late; logs with an odd entry (law k15) -/
theorem ones_C {d : HD} (ht : ∀ t, d.a t = 1) (hc : ∀ t, d.c t = 1) : ∀ n : Nat, d.T n = n ∧ d.C n = n
  | 0 => ⟨rfl, rfl⟩
  | n + 1 => by
    obtain ⟨h1, h2⟩ := ones_C ht hc n
    have e1 : d.T (n + 1) = d.T n + d.a n := rfl
    have e2 : d.C (n + 1) = min (d.T (n + 1)) (d.C n + d.c n) := rfl
    rw [e2, e1, h1, h2, ht, hc]
    constructor <;> omega
theorem ones_shown {d : HD} (ht : ∀ t, d.a t = 1) (hc : ∀ t, d.c t = 1) {t : Int} (h : 0 ≤ t) : Shown d t = .int (t % d.m) := by
  unfold Shown
  rw [(ones_C ht hc _).2, if_pos (by omega), show ((t + 1).toNat : Int) - 1 = t by omega]
theorem a_one {m l : Int} {cl : List Int} (t : Nat) : HD.a ⟨m, [1], cl, l⟩ t = 1 := by
  show ([1] : List Int).getD (t % 1) 0 = 1
  rw [Nat.mod_one]; rfl
theorem a_four {m l : Int} {cl : List Int} (t : Nat) : HD.a ⟨m, [1, 1, 1, 1], cl, l⟩ t = 1 := by
  show ([1, 1, 1, 1] : List Int).getD (t % 4) 0 = 1
  rcases (show t % 4 = 0 ∨ t % 4 = 1 ∨ t % 4 = 2 ∨ t % 4 = 3 by omega) with e | e | e | e <;> rw [e] <;> rfl
theorem c_one {m l : Int} {tk : List Int} (t : Nat) : HD.c ⟨m, tk, [1], l⟩ t = 1 := by
  show ([1] : List Int).getD (t % 1) 0 = 1
  rw [Nat.mod_one]; rfl
theorem gain_lt {d : HD} (k : Int) : HD.gain { d with lt := k } = d.gain := by
  unfold HD.gain
  rw [HD.gr_lt, HD.T_lt]
  rfl
theorem dper_lt {d : HD} (k : Int) : HD.dper { d with lt := k } = d.dper := by
  unfold HD.dper HD.rnd
  rw [gain_lt]
  rfl
theorem late_ok {m l : Int} (h0 : 2 ≤ m) (h1 : m ≤ 10000) (h2 : 0 ≤ l) (h3 : l ≤ 99) : HD.ok ⟨m, [1, 2, 0], [1], l⟩ := ⟨h0, h1, (by decide : 0 < ([1, 2, 0] : List Int).length), (by decide : ([1, 2, 0] : List Int).length ≤ 12), (by decide : ∀ x ∈ ([1, 2, 0] : List Int), 0 ≤ x ∧ x ≤ 9), (by decide : 0 < ([1] : List Int).length), (by decide : ([1] : List Int).length ≤ 12), (by decide : ∀ x ∈ ([1] : List Int), 0 ≤ x ∧ x ≤ 9), h2, h3⟩
theorem late_dper {m l : Int} (h : m = 4999 ∨ m = 5003 ∨ m = 9973) : (HD.dper ⟨m, [1, 2, 0], [1], l⟩ : Int) = 3 * m ∧ HD.per ⟨m, [1, 2, 0], [1], l⟩ = 3 := by
  refine ⟨?_, (by decide : Nat.lcm 3 1 = 3)⟩
  have e : HD.dper ⟨m, [1, 2, 0], [1], l⟩ = HD.dper ⟨m, [1, 2, 0], [1], 0⟩ := dper_lt (d := ⟨m, [1, 2, 0], [1], 0⟩) l
  rw [e]
  rcases h with rfl | rfl | rfl <;> decide +kernel
theorem late_dis {m l : Int} (h : m = 4999 ∨ m = 5003 ∨ m = 9973) : 5000 < HD.dis ⟨m, [1, 2, 0], [1], l⟩ := by
  obtain ⟨e, p⟩ := late_dper (l := l) h
  unfold HD.dis
  omega
theorem late_d1 {m l : Int} (h : m = 4999 ∨ m = 5003 ∨ m = 9973) : 20000 < max (HD.per ⟨m, [1, 2, 0], [1], l⟩) (HD.per ⟨9001, [1, 2, 0], [1], 0⟩) + Nat.lcm (HD.dper ⟨m, [1, 2, 0], [1], l⟩) (HD.dper ⟨9001, [1, 2, 0], [1], 0⟩) := by
  obtain ⟨e, p⟩ := late_dper (l := l) h
  have : HD.dper ⟨m, [1, 2, 0], [1], l⟩ = (3 * m).toNat := by omega
  rw [this]
  have : 20000 < Nat.lcm (3 * m).toNat (HD.dper ⟨9001, [1, 2, 0], [1], 0⟩) := by rcases h with rfl | rfl | rfl <;> decide +kernel
  omega
theorem late_d2 {m l : Int} (h : m = 4999 ∨ m = 5003 ∨ m = 9973) : 20000 < max (HD.per ⟨2, List.replicate 7 1, [1], 0⟩) (HD.per ⟨m, [1, 2, 0], [1], l⟩) + Nat.lcm (HD.dper ⟨2, List.replicate 7 1, [1], 0⟩) (HD.dper ⟨m, [1, 2, 0], [1], l⟩) := by
  obtain ⟨e, p⟩ := late_dper (l := l) h
  have : HD.dper ⟨m, [1, 2, 0], [1], l⟩ = (3 * m).toNat := by omega
  rw [this]
  have : 20000 < Nat.lcm (HD.dper ⟨2, List.replicate 7 1, [1], 0⟩) (3 * m).toNat := by rcases h with rfl | rfl | rfl <;> decide +kernel
  omega
theorem fits_dis : HD.dis ⟨1249, [1, 1, 1, 1], [1], 0⟩ = 5000 := by decide +kernel
theorem fits_cnt : ∀ n : Nat, ((iv 0 n).filter fun s => decide (s % 1249 = 7)).length = (List.range n).countP fun i => i % 1249 == 7 := by
  intro n
  rw [← List.countP_eq_length_filter]
  unfold iv ap
  rw [List.countP_map, show ((n : Int) - 0).toNat = n by omega]
  refine List.countP_congr fun i _ => ?_
  simp only [Function.comp, decide_eq_true_eq, beq_iff_eq]
  omega
theorem fits_see : (flS ⟨1249, [1, 1, 1, 1], [1], 0⟩ (iv 0 (HD.dis ⟨1249, [1, 1, 1, 1], [1], 0⟩)) 0 (.int 7)).length = 4 := by
  unfold flS
  have e : ((iv 0 (HD.dis ⟨1249, [1, 1, 1, 1], [1], 0⟩ : Nat)).filter fun s => decide (Shown ⟨1249, [1, 1, 1, 1], [1], 0⟩ (s + 0) = .int 7)) = (iv 0 (5000 : Nat)).filter fun s => decide (s % 1249 = 7) := by
    rw [fits_dis]
    refine List.filter_congr fun s hs => ?_
    obtain ⟨i, _, rfl⟩ := List.mem_map.mp hs
    rw [ones_shown a_four c_one (by omega), dI]
    congr 2
  rw [e, fits_cnt]
  decide +kernel
theorem thin_dis : HD.dis ⟨10000, [0], List.replicate 12 9, 5⟩ = 24 := by decide +kernel
theorem four_eq {m l : Int} (t : Nat) : Shown ⟨m, [1, 1, 1, 1], [1], 0⟩ t = Shown ⟨m, [1], [1], l⟩ t := by
  rw [ones_shown a_four c_one (by omega), ones_shown a_one c_one (by omega)]
theorem four_b1 : max (HD.per ⟨4999, [1, 1, 1, 1], [1], 0⟩) (HD.per ⟨4999, [1], [1], 3⟩) + Nat.lcm (HD.dper ⟨4999, [1, 1, 1, 1], [1], 0⟩) (HD.dper ⟨4999, [1], [1], 3⟩) ≤ 20000 := by decide +kernel
theorem four_b2 : max (HD.per ⟨5000, [1, 1, 1, 1], [1], 0⟩) (HD.per ⟨5000, [1], [1], 3⟩) + Nat.lcm (HD.dper ⟨5000, [1, 1, 1, 1], [1], 0⟩) (HD.dper ⟨5000, [1], [1], 3⟩) ≤ 20000 := by decide +kernel
abbrev tmC (K : PySem.W.Frag) : Value := .ref (He.ga K "TooMany")
def spDistX (K : PySem.W.Frag) : Sp := fun vs H _ E => ∃ (F : List MP) (L : List (Addr × HO)) (x : Addr) (d : HD), vs = [.ref x] ∧ d.ok ∧ hallP K x d ∈ F ∧ 5000 < d.dis ∧ S F L H ∧ ∀ H', S F L H' → E (tmC K) none H'
def spWInitX (K : PySem.W.Frag) : Sp := fun vs H _ E => ∃ (F : List MP) (L L' : List (Addr × HO)) (wx dx x : Addr) (d : HD), vs = [.ref wx, .ref x] ∧ d.ok ∧ hallP K x d ∈ F ∧ 5000 < d.dis ∧ Pull (wx, .ins (wC K) dx []) L L' ∧ S F L H ∧ ∀ H', S F L' H' → E (tmC K) none H'
def spDiffX (K : PySem.W.Frag) : Sp := fun vs H _ E => ∃ (F : List MP) (L : List (Addr × HO)) (x y : Addr) (d e : HD), vs = [.ref x, .ref y] ∧ d.ok ∧ e.ok ∧ hallP K x d ∈ F ∧ hallP K y e ∈ F ∧ 20000 < max d.per e.per + Nat.lcm d.dper e.dper ∧ S F L H ∧ ∀ H', S F L H' → E (tmC K) none H'
/-- an entry that is not what is shown -/
inductive OddE (K : PySem.W.Frag) (F : List MP) : V → V → Prop where
  | ni {w u : V} (h : NI w) (ne : ¬ w = u) : OddE K F w u
  | str {s : Str} {u : V} : OddE K F (.str s) u
  | tup {p : Addr} {i : Int} {u : V} (h : Ent F (tuF K p [.int i])) : OddE K F (.ref p) u
def spErrW (K : PySem.W.Frag) : Sp := fun vs H Q _ => ∃ (F : List MP) (L : List (Addr × HO)) (x : Addr) (d : HD) (v : V), vs = [.ref x, v] ∧ d.ok ∧ hallP K x d ∈ F ∧ S F L H ∧
  ((∃ n, Ent F (tyP K v n) ∧ n ∈ kinds ∧ n ≠ "list" ∧ ∀ H', S F L H' → Q (.int 0) H') ∨
   ∃ (l : Addr) (zs : List V), v = .ref l ∧ (l, .lst zs) ∈ L ∧
    (((∀ (i : Nat) z, zs[i]? = some z → z = Shown d i) ∧ ∀ H', S F L H' → Q .non H') ∨
     ∃ (n : Nat) (w : V), zs[n]? = some w ∧ OddE K F w (Shown d n) ∧ (∀ (i : Nat) z, i < n → zs[i]? = some z → z = Shown d i) ∧ ∀ H', S F L H' → Q (.int n) H'))
section
variable {K : PySem.W.Frag} {H : Hp} {Q : VK} {E : XK} {F : List MP} {L L' : List (Addr × HO)} {wx dx x y l p : Addr} {d e : HD} {v : V} {zs : List V} {n : String} {i : Int}
theorem c_distX (s : S F L H) (m : hallP K x d ∈ F) (ok : d.ok) (h : 5000 < d.dis) (k : ∀ H', S F L H' → E (tmC K) none H') : spDistX K [.ref x] H Q E := ⟨F, L, x, d, rfl, ok, m, h, s, k⟩
theorem c_winitX (s : S F L H) (m : hallP K x d ∈ F) (ok : d.ok) (h : 5000 < d.dis) (p : Pull (wx, .ins (wC K) dx []) L L') (k : ∀ H', S F L' H' → E (tmC K) none H') : spWInitX K [.ref wx, .ref x] H Q E := ⟨F, L, L', wx, dx, x, d, rfl, ok, m, h, p, s, k⟩
theorem c_diffX (s : S F L H) (m : hallP K x d ∈ F) (m2 : hallP K y e ∈ F) (ok : d.ok) (ok2 : e.ok) (h : 20000 < max d.per e.per + Nat.lcm d.dper e.dper) (k : ∀ H', S F L H' → E (tmC K) none H') : spDiffX K [.ref x, .ref y] H Q E := ⟨F, L, x, y, d, e, rfl, ok, ok2, m, m2, h, s, k⟩
theorem c_errT (s : S F L H) (m : hallP K x d ∈ F) (ok : d.ok) (ty : Ent F (tyP K v n)) (hn : n ∈ kinds) (ne : n ≠ "list") (k : ∀ H', S F L H' → Q (.int 0) H') : spErrW K [.ref x, v] H Q E := ⟨F, L, x, d, v, rfl, ok, m, s, .inl ⟨n, ty, hn, ne, k⟩⟩
theorem c_errR (s : S F L H) (m : hallP K x d ∈ F) (ok : d.ok) (hl : (l, .lst zs) ∈ L) (h : ∀ (i : Nat) z, zs[i]? = some z → z = Shown d i) (k : ∀ H', S F L H' → Q .non H') : spErrW K [.ref x, .ref l] H Q E := ⟨F, L, x, d, _, rfl, ok, m, s, .inr ⟨l, zs, rfl, hl, .inl ⟨h, k⟩⟩⟩
theorem c_errW {n : Nat} {w : V} (s : S F L H) (m : hallP K x d ∈ F) (ok : d.ok) (hl : (l, .lst zs) ∈ L) (hw : zs[n]? = some w) (o : OddE K F w (Shown d n)) (h : ∀ (i : Nat) z, i < n → zs[i]? = some z → z = Shown d i) (k : ∀ H', S F L H' → Q (.int n) H') : spErrW K [.ref x, .ref l] H Q E := ⟨F, L, x, d, _, rfl, ok, m, s, .inr ⟨l, zs, rfl, hl, .inr ⟨n, w, hw, o, h, k⟩⟩⟩
/-- a tuple of one number against a number or nothing -/
theorem x_neTN (h : SqT K H p [.int i]) (hv : NI v) (q : Q (.bl true) H) : rNeA K (.ref p) v H Q := by
  rcases hv with rfl | ⟨j, rfl⟩
  · exact .inr ⟨_, _, .tup h (.cons (.int i) .nil), .non, by simp [SeqAt.shaped, PyData.canLay0, PyData.canLayAll0, PyData.depth, PyData.depthAll], by simp [SeqAt.shaped, PyData.canLay0, PyData.depth], by simpa [PyData.eqv] using q⟩
  · exact .inr ⟨_, _, .tup h (.cons (.int i) .nil), .int j, by simp [SeqAt.shaped, PyData.canLay0, PyData.canLayAll0, PyData.depth, PyData.depthAll], by simp [SeqAt.shaped, PyData.canLay0, PyData.depth], by simpa [PyData.eqv] using q⟩
end
theorem put_at {xs : List V} {w : V} {n : Nat} (h : n ≤ xs.length) : ((xs.take n ++ [w]) ++ xs.drop n)[n]? = some w := by
  have e : (xs.take n).length = n := by rw [List.length_take]; omega
  rw [List.append_assoc, List.getElem?_append_right (by omega), e, Nat.sub_self]
  rfl
theorem put_lt {xs : List V} {w z : V} {n i : Nat} (h : n ≤ xs.length) (hi : i < n) (e : ((xs.take n ++ [w]) ++ xs.drop n)[i]? = some z) : xs[i]? = some z := by
  have l : (xs.take n).length = n := by rw [List.length_take]; omega
  rw [List.append_assoc, List.getElem?_append_left (by omega), List.getElem?_take_of_lt hi] at e
  exact e
end TW
namespace TW
open PySem PySem.Spec PyProof.Rows L2
/-! ### arguments that are not valid -/
/-- a value that is no number from lo to hi -/
structure BadV (K : PySem.W.Frag) (F : List MP) (v : V) (lo hi : Int) : Prop where
  ex : ∃ n, Ent F (tyP K v n) ∧ n ∈ kinds ∧ isIn v lo hi = false
theorem BadV.mono {K : PySem.W.Frag} {F F' : List MP} {v : V} {lo hi : Int} (s : ∀ g ∈ F, g ∈ F') (h : BadV K F v lo hi) : BadV K F' v lo hi := by
  obtain ⟨n, a, b, c⟩ := h
  exact ⟨n, a.mono s, b, c⟩
theorem BadV.cons {K : PySem.W.Frag} {F : List MP} {g : MP} {v : V} {lo hi : Int} (h : BadV K F v lo hi) : BadV K (g :: F) v lo hi := h.mono fun _ m => List.mem_cons_of_mem _ m
abbrev clsV (K : PySem.W.Frag) (x : Str) : Value := .ref (He.ga K x)
abbrev mxT : Int := 1000000000000000000
def spTickX (K : PySem.W.Frag) : Sp := fun vs H Q E => ∃ (F : List MP) (L : List (Addr × HO)) (v : V), vs = [v] ∧ S F L H ∧ ((∃ t, v = .int t ∧ 0 ≤ t ∧ t ≤ mxT ∧ ∀ H', S F L H' → Q .non H') ∨ BadV K F v 0 mxT ∧ ∀ H', S F L H' → E (clsV K "InvalidTick") none H')
/-- hall and a tick that is none -/
def spHTX (K : PySem.W.Frag) : Sp := fun vs H _ E => ∃ (F : List MP) (L : List (Addr × HO)) (x : Addr) (v : V), vs = [.ref x, v] ∧ BadV K F v 0 mxT ∧ S F L H ∧ ∀ H', S F L H' → E (clsV K "InvalidTick") none H'
/-- events: one of the two is none -/
def spEvX (K : PySem.W.Frag) : SpG := fun vs H _ E => ∃ (F : List MP) (L : List (Addr × HO)) (x : Addr) (u v : V), vs = [.ref x, u, v] ∧ (BadV K F u 0 mxT ∨ (∃ t, u = .int t ∧ 0 ≤ t ∧ t ≤ mxT) ∧ BadV K F v 0 mxT) ∧ S F L H ∧ ∀ H', S F L H' → E (clsV K "InvalidTick") none H'
def spDigV (K : PySem.W.Frag) : Sp := fun vs H Q E => ∃ (F : List MP) (L : List (Addr × HO)) (x : Addr) (d : HD) (v : V), vs = [.ref x, v] ∧ d.ok ∧ hallP K x d ∈ F ∧ S F L H ∧ ((∃ n, v = .int n ∧ 0 ≤ n ∧ n < d.m ∧ ∀ H', S F L H' → Q .non H') ∨ BadV K F v 0 (d.m - 1) ∧ ∀ H', S F L H' → E (clsV K "InvalidDigits") none H')
def spHoldX (K : PySem.W.Frag) : Sp := fun vs H _ E => ∃ (F : List MP) (L : List (Addr × HO)) (x : Addr) (u v : V), vs = [.ref x, u, v] ∧ S F L H ∧
  ((BadV K F u 0 mxT ∧ ∀ H', S F L H' → E (clsV K "InvalidTick") none H') ∨
   ∃ (d : HD) (t : Int), u = .int t ∧ 0 ≤ t ∧ t ≤ mxT ∧ d.ok ∧ hallP K x d ∈ F ∧
    ((BadV K F v 0 (d.m - 1) ∧ ∀ H', S F L H' → E (clsV K "InvalidDigits") none H') ∨
     ∃ n, v = .int n ∧ 0 ≤ n ∧ n < d.m ∧ 1000 < d.O t.toNat / d.m ∧ ∀ H', S F L H' → E (clsV K "TooMany") none H'))
def spMistX (K : PySem.W.Frag) : Sp := fun vs H _ E => ∃ (F : List MP) (L : List (Addr × HO)) (x : Addr) (u : V), vs = [.ref x, u] ∧ S F L H ∧
  ((BadV K F u 0 mxT ∧ ∀ H', S F L H' → E (clsV K "InvalidTick") none H') ∨
   ∃ (d : HD) (t : Int), u = .int t ∧ 0 ≤ t ∧ t ≤ mxT ∧ d.ok ∧ hallP K x d ∈ F ∧ 1000 < (d.T (t + 1).toNat - d.C (t + 1).toNat) / d.m * (d.C (t + 1).toNat - d.C t.toNat) ∧ ∀ H', S F L H' → E (clsV K "TooMany") none H')
def spNumX (K : PySem.W.Frag) (lo hi : Int) (c : Str) : Sp := fun vs H _ E => ∃ (F : List MP) (L : List (Addr × HO)) (x : Addr) (v : V), vs = [.ref x, v] ∧ BadV K F v lo hi ∧ S F L H ∧ ∀ H', S F L H' → E (clsV K c) none H'
section
variable {K : PySem.W.Frag} {H : Hp} {Q : VK} {QG : List V → Hp → Prop} {E : XK} {F : List MP} {L L' : List (Addr × HO)} {x : Addr} {d : HD} {u v : V} {n t lo hi : Int} {c : Str}
theorem c_isBad (s : S F L H) (b : BadV K F v lo hi) (h : ∀ H', S F L H' → Q (.bl false) H') : spIsInt K [v, .int lo, .int hi] H Q E := by
  obtain ⟨n, a, hn, e⟩ := b
  exact c_isIn s a hn fun H' s' => by rw [e]; exact h H' s'
theorem c_tickX (s : S F L H) (b : BadV K F v 0 mxT) (k : ∀ H', S F L H' → E (clsV K "InvalidTick") none H') : spTickX K [v] H Q E := ⟨F, L, v, rfl, s, .inr ⟨b, k⟩⟩
theorem c_tickG (s : S F L H) (t0 : 0 ≤ t) (t1 : t ≤ mxT) (k : ∀ H', S F L H' → Q .non H') : spTickX K [.int t] H Q E := ⟨F, L, _, rfl, s, .inl ⟨t, rfl, t0, t1, k⟩⟩
theorem c_htX (s : S F L H) (b : BadV K F v 0 mxT) (k : ∀ H', S F L H' → E (clsV K "InvalidTick") none H') : spHTX K [.ref x, v] H Q E := ⟨F, L, x, v, rfl, b, s, k⟩
theorem c_evX (s : S F L H) (b : BadV K F u 0 mxT ∨ (∃ t, u = .int t ∧ 0 ≤ t ∧ t ≤ mxT) ∧ BadV K F v 0 mxT) (k : ∀ H', S F L H' → E (clsV K "InvalidTick") none H') : spEvX K [.ref x, u, v] H QG E := ⟨F, L, x, u, v, rfl, b, s, k⟩
theorem c_digV (s : S F L H) (m : hallP K x d ∈ F) (ok : d.ok) (b : BadV K F v 0 (d.m - 1)) (k : ∀ H', S F L H' → E (clsV K "InvalidDigits") none H') : spDigV K [.ref x, v] H Q E := ⟨F, L, x, d, v, rfl, ok, m, s, .inr ⟨b, k⟩⟩
theorem c_digG (s : S F L H) (m : hallP K x d ∈ F) (ok : d.ok) (n0 : 0 ≤ n) (n1 : n < d.m) (k : ∀ H', S F L H' → Q .non H') : spDigV K [.ref x, .int n] H Q E := ⟨F, L, x, d, _, rfl, ok, m, s, .inl ⟨n, rfl, n0, n1, k⟩⟩
theorem c_holdT (s : S F L H) (b : BadV K F u 0 mxT) (k : ∀ H', S F L H' → E (clsV K "InvalidTick") none H') : spHoldX K [.ref x, u, v] H Q E := ⟨F, L, x, u, v, rfl, s, .inl ⟨b, k⟩⟩
theorem c_holdD (s : S F L H) (m : hallP K x d ∈ F) (ok : d.ok) (t0 : 0 ≤ t) (t1 : t ≤ mxT) (b : BadV K F v 0 (d.m - 1)) (k : ∀ H', S F L H' → E (clsV K "InvalidDigits") none H') : spHoldX K [.ref x, .int t, v] H Q E := ⟨F, L, x, _, v, rfl, s, .inr ⟨d, t, rfl, t0, t1, ok, m, .inl ⟨b, k⟩⟩⟩
theorem c_holdM (s : S F L H) (m : hallP K x d ∈ F) (ok : d.ok) (t0 : 0 ≤ t) (t1 : t ≤ mxT) (n0 : 0 ≤ n) (n1 : n < d.m) (hm : 1000 < d.O t.toNat / d.m) (k : ∀ H', S F L H' → E (clsV K "TooMany") none H') : spHoldX K [.ref x, .int t, .int n] H Q E := ⟨F, L, x, _, _, rfl, s, .inr ⟨d, t, rfl, t0, t1, ok, m, .inr ⟨n, rfl, n0, n1, hm, k⟩⟩⟩
theorem c_mistT (s : S F L H) (b : BadV K F u 0 mxT) (k : ∀ H', S F L H' → E (clsV K "InvalidTick") none H') : spMistX K [.ref x, u] H Q E := ⟨F, L, x, u, rfl, s, .inl ⟨b, k⟩⟩
theorem c_mistM (s : S F L H) (m : hallP K x d ∈ F) (ok : d.ok) (t0 : 0 ≤ t) (t1 : t ≤ mxT) (hm : 1000 < (d.T (t + 1).toNat - d.C (t + 1).toNat) / d.m * (d.C (t + 1).toNat - d.C t.toNat)) (k : ∀ H', S F L H' → E (clsV K "TooMany") none H') : spMistX K [.ref x, .int t] H Q E := ⟨F, L, x, _, rfl, s, .inr ⟨d, t, rfl, t0, t1, ok, m, hm, k⟩⟩
theorem c_numX (s : S F L H) (b : BadV K F v lo hi) (k : ∀ H', S F L H' → E (clsV K c) none H') : spNumX K lo hi c [.ref x, v] H Q E := ⟨F, L, x, v, rfl, b, s, k⟩
end
/-! a generator that raises, drained by list(..) -/
def nsB (K : PySem.W.Frag) (C : Addr) : Bool := decide (PySem.W.subIn K (.ref C) (.type "StopIteration") = some false)
structure NsK (K : PySem.W.Frag) (C : Addr) : Prop where
  h : PySem.W.subIn K (.ref C) (.type "StopIteration") = some false
theorem nsB_ok {K : PySem.W.Frag} {C : Addr} (h : nsB K C = true) : NsK K C := ⟨of_decide_eq_true h⟩
section
variable {X : Cx} {k : Nat} {C B : Addr} {ps : List Str} {sp : SpG} {m : Str} {p pos pos' apos : Pos} {e o : Expr} {es : List Expr} {ta : TE} {t : TA} {E : XK}
theorem d_listMX {pl : Sem Bool} (D : DmG X.prog X.w X.K X.mg X.base k C m ps sp) (N : NsK X.K B) (tk : Takes X (fun cls d _ H => E cls d H)) (hr : Room (k + 3) X.A) (hb : X.mg "list" = none) (he : PE X o ta) (ha : PA X (e :: es) t) (hg : Gl X "list" := by rfl)
    (hst : starEach (e :: es) X.env = (false, eval e X.env) :: starEach es X.env := by rfl) (hpl : (backTo pos' (starEach es X.env)).any (·.1) = false := by rfl)
    (ht : eval (.Call (.Attribute o m apos) (e :: es) [] pos') X.env = (do
      let ov ← eval o X.env
      standAt apos.atName
      let (f, first) ← holding [ov] (getMethod ov m pl)
      callWith pos' f first (backTo pos' (starEach (e :: es) X.env)) (backToKw pos' (keywordEach [] X.env))) := by rfl)
    (hs : starEach [.Call (.Attribute o m apos) (e :: es) [] pos'] X.env = (false, eval (.Call (.Attribute o m apos) (e :: es) [] pos') X.env) :: starEach [] X.env := by rfl) :
    PE X (.Call (.Name "list" p) [.Call (.Attribute o m apos) (e :: es) [] pos'] [] pos) (tListG (tMethG C m sp [] (fun cls d H => cls = .ref B ∧ E cls d H) ta t)) := by
  obtain ⟨f, fd, c, mf, b, F⟩ := D.ex
  exact pe_listG (pgen_meth (pl := pl) he c mf F (hr.mono (by omega)) b .nil ha hst hpl ht) (passes_call tk fun _ _ _ _ h => h.2) (fun cls d H h => by rw [h.1]; exact N.h) hr hg hb rfl (he := hs)
end
/-! halls with very many visitors -/
theorem T_nine {m l : Int} {cl : List Int} : ∀ n : Nat, HD.T ⟨m, [9], cl, l⟩ n = 9 * n
  | 0 => rfl
  | n + 1 => by
    have h : HD.T ⟨m, [9], cl, l⟩ (n + 1) = HD.T ⟨m, [9], cl, l⟩ n + ([9] : List Int).getD (n % 1) 0 := rfl
    rw [h, T_nine n, Nat.mod_one]
    show 9 * (n : Int) + 9 = _
    omega
theorem C_wide : ∀ n : Nat, HD.C ⟨2, [9], [0, 0, 5], 0⟩ n = 5 * ((n / 3 : Nat) : Int)
  | 0 => rfl
  | n + 1 => by
    have h : HD.C ⟨2, [9], [0, 0, 5], 0⟩ (n + 1) = min (HD.T ⟨2, [9], [0, 0, 5], 0⟩ (n + 1)) (HD.C ⟨2, [9], [0, 0, 5], 0⟩ n + ([0, 0, 5] : List Int).getD (n % 3) 0) := rfl
    rw [h, C_wide n, T_nine]
    rcases (show n % 3 = 0 ∨ n % 3 = 1 ∨ n % 3 = 2 by omega) with e | e | e <;> rw [e] <;> simp only [List.getD_cons_zero, List.getD_cons_succ] <;> omega
theorem C_none {m l : Int} {tk : List Int} (h : ∀ x ∈ tk, 0 ≤ x) : ∀ n : Nat, HD.C ⟨m, tk, [0], l⟩ n = 0 ∧ 0 ≤ HD.T ⟨m, tk, [0], l⟩ n
  | 0 => ⟨rfl, Int.le_refl _⟩
  | n + 1 => by
    obtain ⟨h1, h2⟩ := C_none (m := m) (l := l) h n
    have e1 : HD.C ⟨m, tk, [0], l⟩ (n + 1) = min (HD.T ⟨m, tk, [0], l⟩ (n + 1)) (HD.C ⟨m, tk, [0], l⟩ n + ([0] : List Int).getD (n % 1) 0) := rfl
    have e2 : HD.T ⟨m, tk, [0], l⟩ (n + 1) = HD.T ⟨m, tk, [0], l⟩ n + tk.getD (n % tk.length) 0 := rfl
    have g : 0 ≤ tk.getD (n % tk.length) 0 := by
      rw [List.getD_eq_getElem?_getD]
      cases z : tk[n % tk.length]? with
      | none => exact Int.le_refl _
      | some v => exact h v (List.mem_of_getElem? z)
    refine ⟨?_, by rw [e2]; omega⟩
    rw [e1, e2, h1, Nat.mod_one]
    show min _ ((0 : Int) + 0) = 0
    omega
theorem O_wide {t : Int} (h : 0 ≤ t) : HD.O ⟨2, [9], [0, 0, 5], 0⟩ t.toNat = 9 * (t + 1) - 5 * (t / 3) := by
  unfold HD.O
  rw [T_nine, C_wide]
  show 9 * ((t.toNat + 1 : Nat) : Int) - 5 * ((((t.toNat : Int) - 0).toNat / 3 : Nat) : Int) = _
  omega
end TW
namespace TW
open PySem PySem.Spec PyProof.Rows L2
/-! ### match over a tuple: ["word"], [x, y] -/
abbrev TMs := List V → TS
structure MC (X : Cx) (cs : List MatchCase) (t : TMs) : Prop where
  run : ∀ (pins : List (Addr × Obj)) (s : Shared) (σ : L2.St) (H : Hp) (D : Ends) (a : Addr) (xs : List V) (first : Bool), L2.Inv X pins σ H s → SqT X.K H a xs → t xs D σ H → wpAny (model X.prog X.w) X.A (matchCases cs X.env (.ref a) first) (SP X pins D) X.xe s
def mNil : TMs := fun _ D σ H => D.nx σ H
def mWord (z : Str) (tb : TS) (r : TMs) : TMs := fun xs D σ H => (xs.length ≠ 1 ∧ r xs D σ H) ∨ ∃ y, xs = [.str y] ∧ if decide (y = z) = true then tb D σ H else r xs D σ H
def mTwo (i j : Nat) (tb : TS) (r : TMs) : TMs := fun xs D σ H => (xs.length ≠ 2 ∧ r xs D σ H) ∨ ∃ x y, xs = [x, y] ∧ tb D ((σ.set i (some x)).set j (some y)) H
def tMatch (K : PySem.W.Frag) (te : TE) (t : TMs) : TS := fun D σ H => te σ H fun v H1 => ∃ a xs, v = .ref a ∧ SqT K H1 a xs ∧ t xs D σ H1
section
variable {X : Cx} {body : List Stmt} {rest : List MatchCase} {tb : TS} {r : TMs}
theorem mc_nil : MC X [] mNil := ⟨fun _ _ σ H _ _ _ _ I _ h => wpAny_matchCases_nil ⟨σ, H, I, h⟩⟩
theorem flag_ne {n m : Nat} (h : n ≠ m) : ((n : Int) != (m : Int)) = true := by
  simp only [bne_iff_ne, ne_eq]
  omega
theorem mc_word {z : Str} {j : Nat} {p1 p2 p3 : Pos} (hc : X.calm = true) (hb : PSs X body tb) (hr : MC X rest r) : MC X (⟨.MatchSequence [.MatchValue (.Constant (.str z) j p1) p2] p3, none, body⟩ :: rest) (mWord z tb r) := by
  refine ⟨fun pins s σ H D a xs first I hT h => ?_⟩
  obtain ⟨its, rv, ht, hz⟩ := I.tuple hT
  have il : its.toArray.size = xs.length := by rw [List.size_toArray, rv.length]
  have zl : sizeLine < 2 ^ 62 := by rw [sizeLine_eq]; omega
  refine wpAny_matchCases_cons (wpAny_matchPattern_Sequence (wpAny_collectionFlag ht.typeIs flag_seq_tuple ?_))
  refine pyLen_tuple ht (by rw [il]; omega) ?_
  rcases h with ⟨hl, h⟩ | ⟨y, rfl, h⟩
  · rw [if_pos (by rw [il]; exact flag_ne (m := 1) hl)]
    exact hr.run pins _ σ H D a xs _ (I.tok _) hT h
  · rw [if_neg (by rw [il]; simp)]
    obtain ⟨u, rfl, ru⟩ := rv.one
    refine unpackItems_tuple (items := #[u]) (I.ok.hd hc) ht fun h' hx => ?_
    have I1 : L2.Inv X pins σ H { s with heap := h', toks := s.toks + 1 + 1 } := I.kept fun b o e => hx b o (Nat.ne_of_lt (Heap.lt_size e)) e
    refine wpAny_matchEach_cons (wpAny_matchPattern_Value ?_)
    refine thn ((pe_str (X := X) (j := j) (pos := p1) (x := z)).run pins _ σ H (fun v H1 => v = .str z ∧ H1 = H) I1 ⟨rfl, rfl⟩) fun w s1 ⟨v, H1, I2, r1, e1, e2⟩ => ?_
    subst e1
    subst e2
    refine thn (op_eq pins s1 σ _ (.str y) (.str z) u w (fun v H2 => v = .bl (decide (y = z)) ∧ H2 = H1) I2 ru r1 ⟨rfl, by rw [dS], rfl⟩) fun b s2 ⟨v, H2, I3, r2, e3, e4⟩ => ?_
    subst e3
    subst e4
    cases r2
    refine wpAny_truthy_bool ?_
    cases hd : decide (y = z) with
    | true =>
      rw [hd] at h
      refine wpAny_matchEach_nil ?_
      exact wpAny_assignInOrder_none (hb.run pins _ σ _ D I3 h)
    | false =>
      rw [hd] at h
      exact hr.run pins _ σ _ D a _ _ I3 hT h
theorem mc_two {x y : Str} {i j : Nat} {p1 p2 p3 : Pos} (hc : X.calm = true) (hN : X.N.Nodup) (hi : X.N[i]? = some x) (hj : X.N[j]? = some y) (hx : Loc X.env.scope x) (hy : Loc X.env.scope y) (hb : PSs X body tb) (hr : MC X rest r)
    (hfx : X.fn x = true ∨ X.env.scope.names.lookup x = some .local := by first | exact .inl rfl | exact .inr rfl | assumption) (hfy : X.fn y = true ∨ X.env.scope.names.lookup y = some .local := by first | exact .inl rfl | exact .inr rfl | assumption) :
    MC X (⟨.MatchSequence [.MatchAs none (some x) p1, .MatchAs none (some y) p2] p3, none, body⟩ :: rest) (mTwo i j tb r) := by
  refine ⟨fun pins s σ H D a xs first I hT h => ?_⟩
  obtain ⟨its, rv, ht, hz⟩ := I.tuple hT
  have il : its.toArray.size = xs.length := by rw [List.size_toArray, rv.length]
  have zl : sizeLine < 2 ^ 62 := by rw [sizeLine_eq]; omega
  refine wpAny_matchCases_cons (wpAny_matchPattern_Sequence (wpAny_collectionFlag ht.typeIs flag_seq_tuple ?_))
  refine pyLen_tuple ht (by rw [il]; omega) ?_
  rcases h with ⟨hl, h⟩ | ⟨v1, v2, rfl, h⟩
  · rw [if_pos (by rw [il]; exact flag_ne (m := 2) hl)]
    exact hr.run pins _ σ H D a xs _ (I.tok _) hT h
  · rw [if_neg (by rw [il]; simp)]
    cases rv with
    | @cons _ u1 _ r1 ra rr =>
      cases rr with
      | @cons _ u2 _ r2 rb rr =>
      cases rr
      refine unpackItems_tuple (items := #[u1, u2]) (I.ok.hd hc) ht fun h' hx' => ?_
      have I1 : L2.Inv X pins σ H { s with heap := h', toks := s.toks + 1 + 1 } := I.kept fun b o e => hx' b o (Nat.ne_of_lt (Heap.lt_size e)) e
      refine wpAny_matchEach_cons (wpAny_matchPattern_Capture ?_)
      refine wpAny_matchEach_cons (wpAny_matchPattern_Capture ?_)
      refine wpAny_matchEach_nil ?_
      refine wpAny_assignInOrder_more (wpAny_bindName (store_ok I1 hN hi hx ra (fun s1 I2 => ?_) hfx))
      refine wpAny_assignInOrder_more (wpAny_bindName (store_ok I2 hN hj hy rb (fun s2 I3 => ?_) hfy))
      exact wpAny_assignInOrder_none (hb.run pins _ _ _ D I3 h)
theorem ps_match {e : Expr} {cs : List MatchCase} {te : TE} {t : TMs} {pos : Pos} (he : PE X e te) (hm : MC X cs t) : PS X (.Match e cs pos) (tMatch X.K te t) := by
  refine ⟨fun pins s σ H D I h => ?_⟩
  refine wpAny_Match (thn (he.run pins s σ H _ I h) fun u s1 ⟨v, H1, I1, r1, a, xs, e1, hT, q⟩ => ?_)
  subst e1
  obtain rfl : u = Value.ref a := r1
  exact hm.run pins s1 σ H1 D a xs true I1 hT q
theorem d_match (K : PySem.W.Frag) {e : Expr} {cs : List MatchCase} {te : TE} {t : TMs} {pos : Pos} (he : PE X e te) (hm : MC X cs t) (hK : X.K = K := by rfl) : PS X (.Match e cs pos) (tMatch K te t) := by
  subst hK
  exact ps_match he hm
end
section
variable {K : PySem.W.Frag} {D : Ends} {σ : Sl} {H : Hp} {xs : List V} {a : Addr} {te : TE} {tm r : TMs} {tb : TS} {x y : V} {z w : Str} {i j : Nat}
def kMat (K : PySem.W.Frag) (t : TMs) (D : Ends) (σ : Sl) (v : V) (H1 : Hp) : Prop := ∃ a xs, v = .ref a ∧ SqT K H1 a xs ∧ t xs D σ H1
theorem r_match (h : te σ H fun v H1 => kMat K tm D σ v H1) : tMatch K te tm D σ H := h
theorem x_mat (h : SqT K H a xs) (q : tm xs D σ H) : kMat K tm D σ (.ref a) H := ⟨a, xs, rfl, h, q⟩
theorem m_nil (q : D.nx σ H) : mNil xs D σ H := q
theorem m_word1 (q : if decide (w = z) = true then tb D σ H else r [.str w] D σ H) : mWord z tb r [.str w] D σ H := .inr ⟨w, rfl, q⟩
theorem m_word2 (q : r [x, y] D σ H) : mWord z tb r [x, y] D σ H := .inl ⟨by simp, q⟩
theorem m_two (q : kSet i x σ (fun σ1 H1 => kSet j y σ1 (fun σ2 H2 => tb D σ2 H2) H1) H) : mTwo i j tb r [x, y] D σ H := .inr ⟨x, y, rfl, q⟩
theorem m_two1 (q : r [x] D σ H) : mTwo i j tb r [x] D σ H := .inl ⟨by simp, q⟩
end
end TW
namespace TW
open PySem PySem.Spec PyProof.Rows L2 StX
/-! ### rules that the bench asks for -/
/-- xs == [], whatever is in xs -/
def rEqZ (K : PySem.W.Frag) : R2 := fun x y H Q => ∃ p q xs, x = .ref p ∧ y = .ref q ∧ ((SqL K H p xs ∧ SqL K H q []) ∨ (SqT K H p xs ∧ SqT K H q [])) ∧ Q (.bl xs.isEmpty) H
section
variable {X : Cx} {K : PySem.W.Frag}
theorem op_eqZ (hu : X.A.units + 64 < cLine) : OpR X (compareOp .Eq) (rEqZ X.K) := by
  intro pins s σ H x y v u Q I rx ry h
  obtain ⟨p, q, xs, rfl, rfl, hs, q0⟩ := h
  obtain rfl : v = Value.ref p := rx
  obtain rfl : u = Value.ref q := ry
  have hu' : X.A.units < cLine := by omega
  rcases hs with ⟨h1, h2⟩ | ⟨h1, h2⟩
  · obtain ⟨i1, r1, l1, _⟩ := I.list h1
    obtain ⟨i2, r2, l2, _⟩ := I.list h2
    cases r2
    cases r1 with
    | nil =>
      refine SeqAt.eq_listAt (e := fun _ => true) l1.isList l2.isList rfl hu' (fun j h _ => absurd h (Nat.not_lt_zero _)) ?_
      exact ⟨.bl true, H, I, rfl, q0⟩
    | cons a b =>
      refine SeqAt.eq_list_lengthsAt l1.isList l2.isList (by simp) hu' ?_
      exact ⟨.bl false, H, I, rfl, q0⟩
  · obtain ⟨i1, r1, l1, _⟩ := I.tuple h1
    obtain ⟨i2, r2, l2, _⟩ := I.tuple h2
    cases r2
    refine SeqAt.eq_tupleAt (e := fun _ => true) l1 l2 hu' (fun j _ h => absurd h (Nat.not_lt_zero _)) ?_
    have e : ((List.range (min i1.toArray.size ([] : List Value).toArray.size)).all (fun _ => true) && i1.toArray.size == ([] : List Value).toArray.size) = xs.isEmpty := by
      cases r1 with
      | nil => rfl
      | cons a b => simp
    rw [e]
    exact ⟨.bl xs.isEmpty, H, I, rfl, q0⟩
theorem o_eqZ (K : PySem.W.Frag) (hu : X.A.units + 64 < cLine) (hK : X.K = K := by rfl) : OpR X (compareOp .Eq) (rEqZ K) := by subst hK; exact op_eqZ hu
/-- C(*e) -/
def tMakeS (K : PySem.W.Frag) (C : Addr) (sp : Sp) (E : XK) (te : TE) : TE := fun σ H Q => te σ H fun y H1 => ∃ a xs, y = .ref a ∧ (SqT K H1 a xs ∨ SqL K H1 a xs) ∧ ∀ x dx, H1 x = none → H1 dx = none → dx ≠ x → sp (.ref x :: (xs ++ [])) (upd (upd H1 dx (.own x)) x (.ins C dx [])) (fun v H2 => v = .non ∧ Q (.ref x) H2) E
theorem d_makeS (K : PySem.W.Frag) {CX : CXT} {k : Nat} {C : Addr} {ps : List Str} {sp : Sp} {E : XK} {x : Str} {e : Expr} {te : TE} {p sp_ pos : Pos} (D : Dk X.prog X.w X.K X.mg X.base CX k C x ps sp) (hx : Passes CX X E) (hr : Room (k + 1) X.A) (he : PE X e te) (hg : Gl X x := by rfl) (hdb : (x == ("__debug__" : Str)) = false := by decide)
    (hst : starEach [.Starred e sp_] X.env = [(true, eval e X.env)] := by rfl) (hK : X.K = K := by rfl) : PE X (.Call (.Name x p) [.Starred e sp_] [] pos) (tMakeS K C sp E te) := by
  subst hK
  obtain ⟨f, fd, mf, M, b, F⟩ := D.ex
  refine ⟨fun pins s σ H Q I h => ?_⟩
  refine wpAny_Call_Name_kw (ld_glob I hg mf ?_ hdb)
  refine PySem.W.callWith_S (h₀ := X.base) I.ok.mod.kin M.kp (thn (he.run pins s σ H _ I h) fun v s1 ⟨y, H1, I1, ry, a, xs, ey, hxs, q⟩ => ?_) hst
  subst ey
  obtain rfl : v = Value.ref a := ry
  exact star_any I1 hxs fun us s2 I2 rv => ⟨I2.kIn, run_make M F hr b .nil hx I2 rv q⟩
/-- a method with a star parameter -/
structure DmR (P : Program) (w : World) (K : PySem.W.Frag) (mg : Str → Option Value) (base : Heap) (CX : CXT) (k : Nat) (C : Addr) (m : Str) (sp : Sp) : Prop where
  ex : ∃ f, Cls K C ∧ Meth K C m f ∧ FnR P w K mg base CX k f sp
theorem mk_DmR {P : Program} {w : World} {mg : Str → Option Value} {base : Heap} {CX : CXT} {k : Nat} {m qual p1 pv : Str} {N : List Str} {sp : Sp} {f C : Addr} {params : Arguments} {body : List Stmt} {scope : Scope} (c : Cls K C) (g : Meth K C m f) (h : ∃ fd, FunD K m qual params body scope [] [] f fd) (S : FnScope N [p1, pv] scope) (hCX : CXUp CX)
    (hb : ∀ (kV doc pm : Value) (an : Option Addr) (cdv ct : Value) (us rest : List Value), us.length = [p1].length → bindArgs (PySem.W.fnOf m qual params body scope .none kV doc pm an cdv ct) ⟨us ++ rest, []⟩ = (newTuple rest >>= fun t => pure ([p1].zip us ++ [(pv, t)])))
    (ok : ∀ fd, FunD K m qual params body scope [] [] f fd → ∀ (cdv : Value) (A : Around) (outer : List Env) (s : Shared) (H : Hp) (vs : List V) (Q : VK) (E : XK), Room k (A.deeper (envOfC qual scope s.heap.objs.size f cdv)) → sp vs H Q E →
      ∃ t, PSs (cxOf CX P w K mg base N qual scope f cdv A outer s H E) body t ∧ t { nx := fun _ H' => Q .non H', rt := Q } (start N vs) H) :
    DmR P w K mg base CX (k + 1) C m (fun vs H Q E => ∃ ws rest, vs = ws ++ rest ∧ ws.length = 1 ∧ rest.length ≤ sizeLine ∧ ∀ p, H p = Option.none → sp (ws ++ [V.ref p]) (upd H p (.tup rest)) Q E) := by
  obtain ⟨fd, F⟩ := h
  obtain ⟨oc, od, dV, kV, doc, pm, an, cdv, ct, osl, rfl, lk, hcd, hdV, hk⟩ := id F.ex
  have e : dV = .none := by
    rcases hdV with ⟨_, h⟩ | ⟨h, _⟩
    · exact h
    · exact absurd rfl h
  subst e
  exact ⟨f, c, g, fn_star (ps := [p1]) (pv := pv) lk hcd S hCX (fun us rest hl => hb kV doc pm an cdv ct us rest hl) fun A outer s H vs Q E hr hsp => ok _ F cdv A outer s H vs Q E hr hsp⟩
theorem d_methR {pl : Sem Bool} {CX : CXT} {k : Nat} {C : Addr} {sp : Sp} {E : XK} {m : Str} {e o : Expr} {es : List Expr} {ta : TE} {t : TA} {pos apos : Pos} (D : DmR X.prog X.w X.K X.mg X.base CX k C m sp) (hx : Passes CX X E) (hr : Room k X.A) (he : PE X o ta) (ha : PA X (e :: es) t)
    (hst : starEach (e :: es) X.env = (false, eval e X.env) :: starEach es X.env := by rfl) (hpl : (backTo pos (starEach es X.env)).any (·.1) = false := by rfl)
    (ht : eval (.Call (.Attribute o m apos) (e :: es) [] pos) X.env = (do
      let ov ← eval o X.env
      standAt apos.atName
      let (f, first) ← holding [ov] (getMethod ov m pl)
      callWith pos f first (backTo pos (starEach (e :: es) X.env)) (backToKw pos (keywordEach [] X.env))) := by rfl) :
    PE X (.Call (.Attribute o m apos) (e :: es) [] pos) (tMeth C m sp [] E ta t) := by
  obtain ⟨f, c, hm, F⟩ := D.ex
  refine ⟨fun pins s σ H Q I h => ?_⟩
  refine PySem.W.methodCall_KW (pl := pl) (thn (he.run pins s σ H _ I h) fun u s1 ⟨x, H1, I1, rx, a, dx, fs, ex, ea, l, q⟩ => ?_) ht
  subst ex
  obtain rfl : u = Value.ref a := rx
  refine getmeth_ok I1 ea c hm l ?_
  refine PySem.W.callWith_K (first := [.ref a]) (h₀ := X.base) I.ok.mod.kin hm.kp (thn (ha.run pos pins s1 σ H1 _ I1 q) fun us s2 ⟨vs, H2, I2, r, q2⟩ => ⟨I2.kIn, ?_⟩) hst hpl
  have q2 : sp (.ref a :: (vs ++ [])) H2 Q E := q2
  rw [List.append_nil] at q2
  exact wpAny_call (run_fnR (us := .ref a :: us) (vs := .ref a :: vs) F hr hx I2 (.cons rfl r) q2)
theorem d_methR0 {pl : Sem Bool} {CX : CXT} {k : Nat} {C : Addr} {sp : Sp} {E : XK} {m : Str} {o : Expr} {ta : TE} {pos apos : Pos} (D : DmR X.prog X.w X.K X.mg X.base CX k C m sp) (hx : Passes CX X E) (hr : Room k X.A) (he : PE X o ta)
    (ht : eval (.Call (.Attribute o m apos) [] [] pos) X.env = (do
      let ov ← eval o X.env
      standAt apos.atName
      let (f, first) ← holding [ov] (getMethod ov m pl)
      callWith pos f first (backTo pos (starEach [] X.env)) (backToKw pos (keywordEach [] X.env))) := by rfl) :
    PE X (.Call (.Attribute o m apos) [] [] pos) (tMeth C m sp [] E ta tNil) := by
  obtain ⟨f, c, hm, F⟩ := D.ex
  refine ⟨fun pins s σ H Q I h => ?_⟩
  refine PySem.W.methodCall_KW (pl := pl) (thn (he.run pins s σ H _ I h) fun u s1 ⟨x, H1, I1, rx, a, dx, fs, ex, ea, l, q⟩ => ?_) ht
  subst ex
  obtain rfl : u = Value.ref a := rx
  refine getmeth_ok I1 ea c hm l ?_
  exact PySem.W.callWith_K0 (first := [.ref a]) I1.kIn hm.kp (wpAny_call (run_fnR (us := [.ref a]) (vs := [.ref a]) F hr hx I1 (.cons rfl .nil) q))
/-- t.index(z), texts -/
def rTIdx (K : PySem.W.Frag) : V → List V → Hp → VK → Prop := fun x xs H Q => ∃ p, ∃ ys : List Str, ∃ z j, x = .ref p ∧ xs = [.str z] ∧ SqT K H p (ys.map V.str) ∧ ys[j]? = some z ∧ (∀ m, m < j → ys[m]? ≠ some z) ∧ Q (.int (j : Nat)) H
theorem m_tidx (hK : X.K = K) : MtR X "tuple.index" (rTIdx K) := by subst hK; exact mt_tup_index
end
/-- a tuple of the module, without a dict -/
structure TyT (K : PySem.W.Frag) (p : Addr) : Prop where
  h : ∃ o, K.lookup p = some o ∧ o.cls = .type "tuple" ∧ o.dict = none
def tyTB (K : PySem.W.Frag) (p : Addr) : Bool := match K.lookup p with
  | some ⟨.type c, none, _, _⟩ => c == "tuple"
  | _ => false
theorem tyTB_ok {K : PySem.W.Frag} {p : Addr} (h : tyTB K p = true) : TyT K p := by
  unfold tyTB at h
  split at h
  · rename_i c d sl e
    exact ⟨_, e, congrArg Value.type (beq_iff_eq.mp h), rfl⟩
  · cases h
theorem x_tyT {K : PySem.W.Frag} {p : Addr} {H : Hp} {R : Prop} (h : TyT K p) (q : R) : tyV K "tuple" (.ref p) H ∧ R := ⟨.inr (.inl ⟨rfl, h.h⟩), q⟩
theorem x_tidx {K : PySem.W.Frag} {p : Addr} {H : Hp} {Q : VK} {ys : List Str} {z : Str} {j : Nat} (h : SqT K H p (ys.map V.str)) (e : ys[j]? = some z) (n : ∀ m, m < j → ys[m]? ≠ some z) (q : Q (.int (j : Nat)) H) : rTIdx K (.ref p) [.str z] H Q := ⟨p, ys, z, j, rfl, rfl, h, e, n, q⟩
section
variable {K : PySem.W.Frag} {F : List MP} {L : List (Addr × HO)} {H : Hp} {Q : VK} {sp : Sp} {E : XK} {C p : Addr} {xs : List V} {te : TE} {σ : Sl}
def kMakeS (K : PySem.W.Frag) (C : Addr) (sp : Sp) (E : XK) (y : V) (H1 : Hp) (Q : VK) : Prop := ∃ a xs, y = .ref a ∧ (SqT K H1 a xs ∨ SqL K H1 a xs) ∧ ∀ x dx, H1 x = none → H1 dx = none → dx ≠ x → sp (.ref x :: (xs ++ [])) (upd (upd H1 dx (.own x)) x (.ins C dx [])) (fun v H2 => v = .non ∧ Q (.ref x) H2) E
instance : Step (tMakeS K C sp E te σ H Q) (te σ H fun y H1 => kMakeS K C sp E y H1 Q) := ⟨id⟩
theorem x_makeS (s : S F L H) (h : SqL K H p xs) (k : ∀ x dx H1, S (cel dx (.own x) :: F) ((x, .ins C dx []) :: L) H1 → sp (.ref x :: xs) H1 (fun v H2 => v = .non ∧ Q (.ref x) H2) E) : kMakeS K C sp E (.ref p) H Q :=
  ⟨p, xs, rfl, .inr h, by rw [List.append_nil]; exact x_make s k⟩
end
end TW
namespace TW
open PySem PySem.Spec PyProof.Rows L2
/-- try .. except X, where the body raises nothing -/
def tTryNever (K : PySem.W.Frag) (c : Value) (tb : WX → TS) : TS := fun D σ H => tb (wOnly K c (fun _ _ _ => tNever) (fun _ _ _ _ => False) D) D σ H
theorem d_tryNever (K : PySem.W.Frag) {X : Cx} {x : Str} {c : Value} {body suite : List Stmt} {b₀ : Stmt} {np pos pos' : Pos} {tb : WX → TS} (hc : X.mg x = some c)
    (hb : ∀ (W : WX) (pn : List (Addr × Obj)) (xe : Value → Shared → Prop), Takes (X.tr pn xe) W → PassesOwn (model X.prog X.w) X.A X.env xe → PSs (X.tr pn xe) body (tb W))
    (hs : X.stack = X.env :: X.outer := by rfl) (hf : X.env.frame = some X.env.locals := by rfl) (hg : Gl X x := by rfl) (hd : (x == ("__debug__" : Str)) = false := by decide) (hK : X.K = K := by rfl) :
    PS X (.Try body [.ExceptHandler (some (.Name x np)) none (b₀ :: suite) pos'] [] [] pos) (tTryNever K c tb) := by
  subst hK
  exact ps_try_only hs hf ⟨hg, hd, .inl hc⟩ takes0 hb fun _ _ _ _ _ _ _ => pss_never

/-! ### benches -/
abbrev bC (K : PySem.W.Frag) : Addr := He.ga K "Bench"
def bfs (h lp lu ds : Addr) : List (Str × V) := [("now", .ref h), ("past", .ref lp), ("undone", .ref lu), ("saved", .ref ds)]
abbrev bCell (K : PySem.W.Frag) (b dx h lp lu ds : Addr) : Addr × HO := (b, .ins (bC K) dx (bfs h lp lu ds))
abbrev Ent3 := Str × HD × HD
/-- the entries of a history -/
inductive Ens (K : PySem.W.Frag) (E : Hp) : List V → List Ent3 → Prop where
  | nil : Ens K E [] []
  | cons {q a b : Addr} {w : Str} {d1 d2 : HD} {vs : List V} {es : List Ent3} : SqT K E q [.str w, .ref a, .ref b] → (hallP K a d1).1 E → (hallP K b d2).1 E → Ens K E vs es → Ens K E (.ref q :: vs) ((w, d1, d2) :: es)
section
variable {K : PySem.W.Frag} {E E' : Hp} {vs ws : List V} {es fs : List Ent3} {w : Str} {d1 d2 : HD}
theorem Ens.mono (s : Same E E') (h : Ens K E vs es) : Ens K E' vs es := by
  induction h with
  | nil => exact .nil
  | cons a b c _ ih => exact .cons (sqT_mono s a) ((hallP K _ _).2 _ _ s b) ((hallP K _ _).2 _ _ s c) ih
theorem Ens.app (h : Ens K E vs es) (h2 : Ens K E ws fs) : Ens K E (vs ++ ws) (es ++ fs) := by
  induction h with
  | nil => exact h2
  | cons a b c _ ih => exact .cons a b c ih
theorem Ens.len (h : Ens K E vs es) : vs.length = es.length := by
  induction h with
  | nil => rfl
  | cons _ _ _ _ ih => simp [ih]
theorem Ens.cons' {e : Ent3} (h : Ens K E vs (e :: es)) : ∃ q a b ws, vs = .ref q :: ws ∧ SqT K E q [.str e.1, .ref a, .ref b] ∧ (hallP K a e.2.1).1 E ∧ (hallP K b e.2.2).1 E ∧ Ens K E ws es := by
  generalize hx : e :: es = xs at h
  cases h with
  | nil => cases hx
  | cons a b c d =>
    cases hx
    exact ⟨_, _, _, _, rfl, a, b, c, d⟩
theorem Ens.nil' (h : Ens K E vs []) : vs = [] := by
  generalize hx : ([] : List Ent3) = xs at h
  cases h with
  | nil => rfl
  | cons a b c d => cases hx
theorem Ens.snoc : ∀ {es : List Ent3} {vs : List V}, Ens K E vs (es ++ [(w, d1, d2)]) → ∃ ws q a b, vs = ws ++ [.ref q] ∧ Ens K E ws es ∧ SqT K E q [.str w, .ref a, .ref b] ∧ (hallP K a d1).1 E ∧ (hallP K b d2).1 E := by
  intro es
  induction es with
  | nil =>
    intro vs h
    obtain ⟨q, a, b, ws, rfl, h1, h2, h3, h4⟩ := Ens.cons' h
    rw [h4.nil']
    exact ⟨[], q, a, b, rfl, .nil, h1, h2, h3⟩
  | cons e es ih =>
    intro vs h
    obtain ⟨q, a, b, ws, rfl, h1, h2, h3, h4⟩ := Ens.cons' (es := es ++ [(w, d1, d2)]) h
    obtain ⟨us, q2, x, y, rfl, g1, g2, g3, g4⟩ := ih h4
    exact ⟨.ref q :: us, q2, x, y, rfl, .cons h1 h2 h3 g1, g2, g3, g4⟩
theorem Ens.words (h : Ens K E vs es) : ∀ {i : Nat} {v : V}, vs[i]? = some v → ∃ q a b e, v = .ref q ∧ es[i]? = some e ∧ SqT K E q [.str e.1, .ref a, .ref b] := by
  induction h with
  | nil => intro i v e; cases e
  | @cons q a b w d1 d2 vs es x _ _ _ ih =>
    intro i v e
    cases i with
    | zero => cases e; exact ⟨q, a, b, _, rfl, rfl, x⟩
    | succ i => exact ih e
end
def ensP (K : PySem.W.Frag) (vs : List V) (es : List Ent3) : MP := ⟨fun E => Ens K E vs es, fun _ _ s h => h.mono s⟩
structure BS where
  d : HD
  p : List Ent3
  u : List Ent3
structure BS.ok (s : BS) : Prop where
  d : s.d.ok
  p : ∀ e ∈ s.p, e.2.1.ok ∧ e.2.2.ok
  u : ∀ e ∈ s.u, e.2.1.ok ∧ e.2.2.ok
  lp : s.p.length + s.u.length ≤ 100000
/-- one part of a hall replaced -/
inductive Chg (K : PySem.W.Frag) (F : List MP) (d : HD) : Str → V → HD → Prop where
  | m {k : Int} (h0 : 2 ≤ k) (h1 : k ≤ 10000) : Chg K F d "modulus" (.int k) { d with m := k }
  | t {p : Addr} {xs : List Int} (h0 : 0 < xs.length) (h1 : xs.length ≤ 12) (h2 : ∀ x ∈ xs, 0 ≤ x ∧ x ≤ 9) (e : Ent F (tuF K p (xs.map V.int))) : Chg K F d "takes" (.ref p) { d with tk := xs }
  | c {p : Addr} {xs : List Int} (h0 : 0 < xs.length) (h1 : xs.length ≤ 12) (h2 : ∀ x ∈ xs, 0 ≤ x ∧ x ≤ 9) (e : Ent F (tuF K p (xs.map V.int))) : Chg K F d "calls" (.ref p) { d with cl := xs }
  | l {k : Int} (h0 : 0 ≤ k) (h1 : k ≤ 99) : Chg K F d "lateness" (.int k) { d with lt := k }
theorem Chg.ok {K : PySem.W.Frag} {F : List MP} {d d2 : HD} {w : Str} {v : V} (h : Chg K F d w v d2) (ok : d.ok) : d2.ok := by
  cases h with
  | m h0 h1 => exact ⟨h0, h1, ok.t0, ok.t1, ok.t2, ok.c0, ok.c1, ok.c2, ok.l0, ok.l1⟩
  | t h0 h1 h2 => exact ⟨ok.m0, ok.m1, h0, h1, h2, ok.c0, ok.c1, ok.c2, ok.l0, ok.l1⟩
  | c h0 h1 h2 => exact ⟨ok.m0, ok.m1, ok.t0, ok.t1, ok.t2, h0, h1, h2, ok.l0, ok.l1⟩
  | l h0 h1 => exact ⟨ok.m0, ok.m1, ok.t0, ok.t1, ok.t2, ok.c0, ok.c1, ok.c2, h0, h1⟩
theorem Chg.mono {K : PySem.W.Frag} {F F' : List MP} {d d2 : HD} {w : Str} {v : V} (s : ∀ g ∈ F, g ∈ F') (h : Chg K F d w v d2) : Chg K F' d w v d2 := by
  cases h with
  | m h0 h1 => exact .m h0 h1
  | t h0 h1 h2 e => exact .t h0 h1 h2 (e.mono s)
  | c h0 h1 h2 e => exact .c h0 h1 h2 (e.mono s)
  | l h0 h1 => exact .l h0 h1
/-- the most open tickets, as the program tells them -/
def MosV (d : HD) (v : V) : Prop := (v = .non ∧ 0 < d.gr) ∨ ∃ m, v = .int m ∧ d.gr = 0 ∧ d.IsMost m
theorem MosV.uniq {d : HD} {u v : V} (h1 : MosV d u) (h2 : MosV d v) : u = v := by
  rcases h1 with ⟨rfl, a⟩ | ⟨m, rfl, a, b⟩ <;> rcases h2 with ⟨rfl, c⟩ | ⟨n, rfl, c, e⟩
  · rfl
  · omega
  · omega
  · rw [HD.most_uniq b e]
def BnPre (K : PySem.W.Frag) (F : List MP) (L L' : List (Addr × HO)) (b dx h lp lu ds : Addr) (vp vu : List V) (s : BS) : Prop := s.ok ∧ hallP K h s.d ∈ F ∧ ensP K vp s.p ∈ F ∧ ensP K vu s.u ∈ F ∧ ∃ L1 L2, Pull (bCell K b dx h lp lu ds) L L1 ∧ Pull (lp, .lst vp) L1 L2 ∧ Pull (lu, .lst vu) L2 L'
def BnPost (K : PySem.W.Frag) (F : List MP) (L' : List (Addr × HO)) (b dx ds : Addr) (s : BS) (R : Hp → Prop) : Prop := ∀ h lp lu vp vu H', S (hallP K h s.d :: ensP K vp s.p :: ensP K vu s.u :: F) (bCell K b dx h lp lu ds :: (lp, .lst vp) :: (lu, .lst vu) :: L') H' → R H'
def spBInit (K : PySem.W.Frag) : Sp := fun vs H Q _ => ∃ (F : List MP) (L L' : List (Addr × HO)) (b dx h : Addr), vs = [.ref b, .ref h] ∧ Pull (b, .ins (bC K) dx []) L L' ∧ S F L H ∧ ∀ lp lu ds H', S F (bCell K b dx h lp lu ds :: (lp, .lst []) :: (lu, .lst []) :: (ds, .dK []) :: L') H' → Q .non H'
/-- w replaced by v on the bench at b -/
def ChgB (K : PySem.W.Frag) (b : Addr) (w : Str) (v : V) (H : Hp) (Q : VK) : Prop := ∃ (F : List MP) (L L' : List (Addr × HO)) (dx h lp lu ds : Addr) (vp vu : List V) (s : BS) (d2 : HD), BnPre K F L L' b dx h lp lu ds vp vu s ∧ s.p.length + s.u.length < 100000 ∧ Chg K F s.d w v d2 ∧ S F L H ∧ ∀ r, MosV d2 r → BnPost K F L' b dx ds ⟨d2, s.p ++ [(w, s.d, d2)], []⟩ (Q r)
def spChange (K : PySem.W.Frag) : Sp := fun vs H Q _ => ∃ b w v, vs = [.ref b, .str w, v] ∧ ChgB K b w v H Q
def spSet (K : PySem.W.Frag) (w : Str) : Sp := fun vs H Q _ => ∃ b v, vs = [.ref b, v] ∧ ChgB K b w v H Q
def spUndo (K : PySem.W.Frag) : Sp := fun vs H Q _ => ∃ (F : List MP) (L L' : List (Addr × HO)) (b dx h lp lu ds : Addr) (vp vu : List V) (s : BS), vs = [.ref b] ∧ BnPre K F L L' b dx h lp lu ds vp vu s ∧ S F L H ∧
  ((s.p = [] ∧ BnPost K F L' b dx ds s (Q (.bl false))) ∨ ∃ p w d1 d2, s.p = p ++ [(w, d1, d2)] ∧ BnPost K F L' b dx ds ⟨d1, p, s.u ++ [(w, d1, d2)]⟩ (Q (.bl true)))
def spRedo (K : PySem.W.Frag) : Sp := fun vs H Q _ => ∃ (F : List MP) (L L' : List (Addr × HO)) (b dx h lp lu ds : Addr) (vp vu : List V) (s : BS), vs = [.ref b] ∧ BnPre K F L L' b dx h lp lu ds vp vu s ∧ S F L H ∧
  ((s.u = [] ∧ BnPost K F L' b dx ds s (Q (.bl false))) ∨ ∃ u w d1 d2, s.u = u ++ [(w, d1, d2)] ∧ BnPost K F L' b dx ds ⟨d2, s.p ++ [(w, d1, d2)], u⟩ (Q (.bl true)))
def spBText (K : PySem.W.Frag) : Sp := fun vs H Q _ => ∃ (F : List MP) (L : List (Addr × HO)) (b dx h lp lu ds : Addr) (d : HD), vs = [.ref b] ∧ d.ok ∧ hallP K h d ∈ F ∧ bCell K b dx h lp lu ds ∈ L ∧ S F L H ∧ ∀ H', S F L H' → Q (.str (htext d)) H'
def spBOps (K : PySem.W.Frag) : Sp := fun vs H Q _ => ∃ (F : List MP) (L : List (Addr × HO)) (b dx h lp lu ds : Addr) (vp : List V) (ep : List Ent3), vs = [.ref b] ∧ ep.length ≤ 100000 ∧ ensP K vp ep ∈ F ∧ bCell K b dx h lp lu ds ∈ L ∧ (lp, .lst vp) ∈ L ∧ S F L H ∧ ∀ l H', S F ((l, .lst (ep.map fun e => V.str e.1)) :: L) H' → Q (.ref l) H'
/-- an operation that works: its value, its result, the bench after it -/
inductive OpOk (K : PySem.W.Frag) (F : List MP) (s : BS) : V → V → BS → Prop where
  | chg {q : Addr} {w : Str} {v r : V} {d2 : HD} (e : Ent F (tuF K q [.str w, v])) (c : Chg K F s.d w v d2) (m : MosV d2 r) : OpOk K F s (.ref q) r ⟨d2, s.p ++ [(w, s.d, d2)], []⟩
  | undo0 {q : Addr} (e : Ent F (tuF K q [.str "undo"])) (h : s.p = []) : OpOk K F s (.ref q) (.bl false) s
  | undo1 {q : Addr} {p : List Ent3} {w : Str} {d1 d2 : HD} (e : Ent F (tuF K q [.str "undo"])) (h : s.p = p ++ [(w, d1, d2)]) : OpOk K F s (.ref q) (.bl true) ⟨d1, p, s.u ++ [(w, d1, d2)]⟩
  | redo0 {q : Addr} (e : Ent F (tuF K q [.str "redo"])) (h : s.u = []) : OpOk K F s (.ref q) (.bl false) s
  | redo1 {q : Addr} {u : List Ent3} {w : Str} {d1 d2 : HD} (e : Ent F (tuF K q [.str "redo"])) (h : s.u = u ++ [(w, d1, d2)]) : OpOk K F s (.ref q) (.bl true) ⟨d2, s.p ++ [(w, d1, d2)], u⟩
/-! ### any order -/
inductive PA : List (Addr × HO) → List (Addr × HO) → Prop where
  | nil {L} : PA L []
  | cons {q L L1 L'} : Pull q L L1 → PA L1 L' → PA L (q :: L')
theorem PA.of_refl : ∀ L : List (Addr × HO), PA L L
  | [] => .nil
  | _ :: L => .cons .head (PA.of_refl L)
theorem PA.tail' {q : Addr × HO} {L L' : List (Addr × HO)} (h : PA L L') : PA (q :: L) L' := by
  induction h with
  | nil => exact .nil
  | cons a _ ih => exact .cons (.tail a) ih
theorem S.pa {F : List MP} {L L' : List (Addr × HO)} {H : Hp} (s : S F L H) (h : PA L L') : S F L' H := by
  have key : ∀ {L L' : List (Addr × HO)}, PA L L' → ∃ R, L.Perm (L' ++ R) := by
    intro L L' h
    induction h with
    | nil => exact ⟨_, List.Perm.refl _⟩
    | cons a _ ih =>
      obtain ⟨R, hR⟩ := ih
      exact ⟨R, a.perm.trans (hR.cons _)⟩
  obtain ⟨R, hR⟩ := key h
  exact (s.perm hR).mono (fun _ z => z) (List.sublist_append_left _ _)
theorem S.rp {F F' : List MP} {L L' : List (Addr × HO)} {H : Hp} (s : S F L H) (hF : SubF F F') (hL : PA L L') : S F' L' H := (s.pa hL).re hF (List.Sublist.refl _)
section
variable {K : PySem.W.Frag} {H : Hp} {Q : VK} {E : XK} {F : List MP} {L L' : List (Addr × HO)} {b dx h lp lu ds p C : Addr} {s : BS} {vp vu : List V} {w : Str} {v : V} {d d2 : HD} {σ : Sl}
theorem x_dnK (s : S F L H) (k : ∀ p H1, S F ((p, .dK []) :: L) H1 → Q (.ref p) H1) : tDNewK σ H Q := fun p hp => k p _ (s.new hp)
theorem c_binit (s : S F L H) (p : Pull (b, .ins (bC K) dx []) L L') (k : ∀ lp lu ds H', S F (bCell K b dx h lp lu ds :: (lp, .lst []) :: (lu, .lst []) :: (ds, .dK []) :: L') H' → Q .non H') : spBInit K [.ref b, .ref h] H Q E := ⟨F, L, L', b, dx, h, rfl, p, s, k⟩
theorem bnPre (s1 : s.ok) (m0 : hallP K h s.d ∈ F) (m1 : ensP K vp s.p ∈ F) (m2 : ensP K vu s.u ∈ F) {L1 L2 : List (Addr × HO)} (p0 : Pull (bCell K b dx h lp lu ds) L L1) (p1 : Pull (lp, .lst vp) L1 L2) (p2 : Pull (lu, .lst vu) L2 L') : BnPre K F L L' b dx h lp lu ds vp vu s := ⟨s1, m0, m1, m2, L1, L2, p0, p1, p2⟩
theorem bnPre_s {H : Hp} (P : BnPre K F L L' b dx h lp lu ds vp vu s) (hS : S F L H) : S F (bCell K b dx h lp lu ds :: (lp, .lst vp) :: (lu, .lst vu) :: L') H := by
  obtain ⟨_, _, _, _, L1, L2, p0, p1, p2⟩ := P
  exact hS.pa (.cons p0 (.cons p1 (.cons p2 (PA.of_refl _))))
theorem c_btext (s : S F L H) (m : hallP K h d ∈ F) (m2 : bCell K b dx h lp lu ds ∈ L) (ok : d.ok) (k : ∀ H', S F L H' → Q (.str (htext d)) H') : spBText K [.ref b] H Q E := ⟨F, L, b, dx, h, lp, lu, ds, d, rfl, ok, m, m2, s, k⟩
theorem c_bops {ep : List Ent3} (s : S F L H) (m : ensP K vp ep ∈ F) (m2 : bCell K b dx h lp lu ds ∈ L) (m3 : (lp, .lst vp) ∈ L) (hl : ep.length ≤ 100000) (k : ∀ l H', S F ((l, .lst (ep.map fun e => V.str e.1)) :: L) H' → Q (.ref l) H') : spBOps K [.ref b] H Q E := ⟨F, L, b, dx, h, lp, lu, ds, vp, ep, rfl, hl, m, m2, m3, s, k⟩
theorem c_chg (P : BnPre K F L L' b dx h lp lu ds vp vu s) (hl : s.p.length + s.u.length < 100000) (c : Chg K F s.d w v d2) (hS : S F L H) (k : ∀ r, MosV d2 r → BnPost K F L' b dx ds ⟨d2, s.p ++ [(w, s.d, d2)], []⟩ (Q r)) : spChange K [.ref b, .str w, v] H Q E := ⟨b, w, v, rfl, F, L, L', dx, h, lp, lu, ds, vp, vu, s, d2, P, hl, c, hS, k⟩
theorem c_set (P : BnPre K F L L' b dx h lp lu ds vp vu s) (hl : s.p.length + s.u.length < 100000) (c : Chg K F s.d w v d2) (hS : S F L H) (k : ∀ r, MosV d2 r → BnPost K F L' b dx ds ⟨d2, s.p ++ [(w, s.d, d2)], []⟩ (Q r)) : spSet K w [.ref b, v] H Q E := ⟨b, v, rfl, F, L, L', dx, h, lp, lu, ds, vp, vu, s, d2, P, hl, c, hS, k⟩
theorem mos_of (g : 0 < d.gr ∨ d.gr = 0 ∧ ∃ m, d.IsMost m) : ∃ v, MosV d v := by
  rcases g with g | ⟨g, m, hm⟩
  · exact ⟨.non, .inl ⟨rfl, g⟩⟩
  · exact ⟨.int m, .inr ⟨m, rfl, g, hm⟩⟩
theorem chg_post {F0 F1 : List MP} {L2 : List (Addr × HO)} {x y q lu2 : Addr} {pq : Addr × HO} {p : List Ent3} (hS : S F0 ((lu2, .lst []) :: pq :: bCell K b dx y lp lu2 ds :: (lp, .lst (vp ++ [.ref q])) :: (lu, .lst vu) :: L2) H) (m1 : cel q (.tup [.str w, .ref x, .ref y]) ∈ F0) (m2 : hallP K x d ∈ F0) (m3 : hallP K y d2 ∈ F0) (m4 : ensP K vp p ∈ F0) (sub : ∀ f ∈ F1, f ∈ F0) :
    S (hallP K y d2 :: ensP K (vp ++ [.ref q]) (p ++ [(w, d, d2)]) :: ensP K [] [] :: F1) (bCell K b dx y lp lu2 ds :: (lp, .lst (vp ++ [.ref q])) :: (lu2, .lst []) :: L2) H := by
  have s1 := (hS.put_ (ensP K (vp ++ [.ref q]) (p ++ [(w, d, d2)])) (fun E z => Ens.app (z (ensP K vp p) m4) (.cons (SqT.of (z _ m1)) (z _ m2) (z _ m3) .nil))).put_ (ensP K [] []) (Ent.all fun _ => .nil)
  refine (s1.pa (.cons (.tail (.tail .head)) (.cons (.tail (.tail .head)) (.cons .head (.tail' (.tail' (PA.of_refl _))))))).mono (fun f hf => ?_) (List.Sublist.refl _)
  rcases List.mem_cons.mp hf with rfl | hf
  · exact List.mem_cons_of_mem _ (List.mem_cons_of_mem _ m3)
  rcases List.mem_cons.mp hf with rfl | hf
  · exact List.mem_cons_of_mem _ List.mem_cons_self
  rcases List.mem_cons.mp hf with rfl | hf
  · exact List.mem_cons_self
  · exact List.mem_cons_of_mem _ (List.mem_cons_of_mem _ (sub f hf))
theorem S.ofE (s : S F L H) : ∃ E : Hp, (∀ f ∈ F, f.1 E) ∧ ∀ F' : List MP, (∀ f ∈ F', f.1 E) → S F' L H := by
  obtain ⟨E, h1, h2, h3⟩ := s.ex
  exact ⟨E, h2, fun F' h => ⟨⟨E, h1, h, h3⟩, s.cell, s.nd⟩⟩
/-- the last entry, told apart -/
theorem S.last {p : List Ent3} {d1 d2 : HD} (hS : S F L H) (m : ensP K vp (p ++ [(w, d1, d2)]) ∈ F) : ∃ ws q a c, vp = ws ++ [.ref q] ∧ S (tuF K q [.str w, .ref a, .ref c] :: hallP K a d1 :: hallP K c d2 :: ensP K ws p :: F) L H := by
  obtain ⟨E, hE, mk⟩ := hS.ofE
  obtain ⟨ws, q, a, c, e, h1, h2, h3, h4⟩ := Ens.snoc (hE _ m)
  refine ⟨ws, q, a, c, e, mk _ fun f hf => ?_⟩
  rcases List.mem_cons.mp hf with rfl | hf
  · exact h2
  rcases List.mem_cons.mp hf with rfl | hf
  · exact h3
  rcases List.mem_cons.mp hf with rfl | hf
  · exact h4
  rcases List.mem_cons.mp hf with rfl | hf
  · exact h1
  · exact hE f hf
theorem x_popL {ws : List V} {y : V} {l : Addr} (s : S F L H) (h : Put l (.lst (ws ++ [y])) (.lst ws) L L') (q : ∀ H1, S F L' H1 → Q y H1) : rPop (.ref l) [] H Q :=
  ⟨l, ws ++ [y], y, rfl, rfl, s.at_ h.mem, by simp, by rw [List.dropLast_concat]; exact q _ (s.put h)⟩
theorem mv_post {F0 : List MP} {a c q : Addr} {p u : List Ent3} {ws us : List V} {d1 : HD} (hS : S F0 L H) (t : tuF K q [.str w, .ref a, .ref c] ∈ F0) (m1 : hallP K a d1 ∈ F0) (m2 : hallP K c d2 ∈ F0) (m3 : ensP K us u ∈ F0) : Ent F0 (ensP K (us ++ [.ref q]) (u ++ [(w, d1, d2)])) := fun E z => Ens.app (z (ensP K us u) m3) (.cons (z _ t) (z _ m1) (z _ m2) .nil)
theorem x_eqZ {q : Addr} {xs : List V} (h1 : SqL K H p xs) (h2 : SqL K H q []) (k : Q (.bl xs.isEmpty) H) : rEqZ K (.ref p) (.ref q) H Q := ⟨p, q, xs, rfl, rfl, .inl ⟨h1, h2⟩, k⟩
theorem x_eqZT {q : Addr} {xs : List V} (h1 : SqT K H p xs) (h2 : SqT K H q []) (k : Q (.bl xs.isEmpty) H) : rEqZ K (.ref p) (.ref q) H Q := ⟨p, q, xs, rfl, rfl, .inr ⟨h1, h2⟩, k⟩
theorem x_eqZn {q : Addr} {xs : List V} (h1 : SqL K H p xs) (h2 : SqL K H q []) (n : xs ≠ []) (k : Q (.bl false) H) : rEqZ K (.ref p) (.ref q) H Q := x_eqZ h1 h2 (by cases xs with
  | nil => exact absurd rfl n
  | cons => exact k)
theorem x_eqZe {q : Addr} (h1 : SqL K H p []) (h2 : SqL K H q []) (k : Q (.bl true) H) : rEqZ K (.ref p) (.ref q) H Q := x_eqZ h1 h2 k
end
end TW
namespace TW
open PySem PySem.Spec PyProof.Rows L2
/-- a tuple of a known word and the right number of arguments -/
inductive OpW (K : PySem.W.Frag) (F : List MP) : V → Prop where
  | one {q : Addr} {w : Str} (e : Ent F (tuF K q [.str w])) (h : w = "undo" ∨ w = "redo") : OpW K F (.ref q)
  | two {q : Addr} {w : Str} {v : V} (e : Ent F (tuF K q [.str w, v])) (h : w = "modulus" ∨ w = "takes" ∨ w = "calls" ∨ w = "lateness") : OpW K F (.ref q)
section
variable {K : PySem.W.Frag} {F : List MP} {s s' : BS} {o r : V}
theorem Chg.word {d d2 : HD} {w : Str} {v : V} (h : Chg K F d w v d2) : w = "modulus" ∨ w = "takes" ∨ w = "calls" ∨ w = "lateness" := by
  cases h with
  | m _ _ => exact .inl rfl
  | t _ _ _ _ => exact .inr (.inl rfl)
  | c _ _ _ _ => exact .inr (.inr (.inl rfl))
  | l _ _ => exact .inr (.inr (.inr rfl))
theorem OpOk.word (h : OpOk K F s o r s') : OpW K F o := by
  cases h with
  | chg e c _ => exact .two e c.word
  | undo0 e _ => exact .one e (.inl rfl)
  | undo1 e _ => exact .one e (.inl rfl)
  | redo0 e _ => exact .one e (.inr rfl)
  | redo1 e _ => exact .one e (.inr rfl)
theorem OpOk.ok (h : OpOk K F s o r s') (ok : s.ok) (hl : s.p.length + s.u.length < 100000) : s'.ok := by
  have hp := ok.p
  have hu := ok.u
  cases h with
  | chg e c _ =>
    refine ⟨c.ok ok.d, fun e h => ?_, fun e h => (by cases h), ?_⟩
    · rcases List.mem_append.mp h with h | h
      · exact hp e h
      · rw [List.mem_singleton.mp h]; exact ⟨ok.d, c.ok ok.d⟩
    · rw [List.length_append]; simp; omega
  | undo0 e _ => exact ok
  | redo0 e _ => exact ok
  | undo1 e h =>
    rw [h] at hp hl
    have hq := hp _ (List.mem_append.mpr (.inr (List.mem_singleton.mpr rfl)))
    refine ⟨hq.1, fun e h => hp e (List.mem_append.mpr (.inl h)), fun e h => ?_, ?_⟩
    · rcases List.mem_append.mp h with h | h
      · exact hu e h
      · rw [List.mem_singleton.mp h]; exact hq
    · rw [List.length_append] at hl ⊢; simp at hl ⊢; omega
  | redo1 e h =>
    rw [h] at hu hl
    have hq := hu _ (List.mem_append.mpr (.inr (List.mem_singleton.mpr rfl)))
    refine ⟨hq.2, fun e h => ?_, fun e h => hu e (List.mem_append.mpr (.inl h)), ?_⟩
    · rcases List.mem_append.mp h with h | h
      · exact hp e h
      · rw [List.mem_singleton.mp h]; exact hq
    · rw [List.length_append] at hl ⊢; simp at hl ⊢; omega
theorem OpOk.len (h : OpOk K F s o r s') : s'.p.length + s'.u.length ≤ s.p.length + s.u.length + 1 := by
  cases h with
  | chg e c _ => rw [List.length_append]; simp
  | undo0 e _ => omega
  | redo0 e _ => omega
  | undo1 e h => rw [h]; simp [List.length_append]; omega
  | redo1 e h => rw [h]; simp [List.length_append]; omega
end
def spIsOp (K : PySem.W.Frag) : Sp := fun vs H Q _ => ∃ (F : List MP) (L : List (Addr × HO)) (o : V), vs = [o] ∧ OpW K F o ∧ S F L H ∧ ∀ H', S F L H' → Q (.bl true) H'
def spExec (K : PySem.W.Frag) : Sp := fun vs H Q _ => ∃ (F : List MP) (L L' : List (Addr × HO)) (b dx h lp lu ds : Addr) (vp vu : List V) (s s' : BS) (o r : V), vs = [.ref b, o] ∧ BnPre K F L L' b dx h lp lu ds vp vu s ∧ s.p.length + s.u.length < 100000 ∧ OpOk K F s o r s' ∧ S F L H ∧ BnPost K F L' b dx ds s' (Q r)
def spBatch (K : PySem.W.Frag) : Sp := fun vs H Q _ => ∃ (F : List MP) (L L' : List (Addr × HO)) (b dx h lp lu ds l : Addr) (vp vu os rs : List V) (ss : Nat → BS), vs = [.ref b, .ref l] ∧ BnPre K F L L' b dx h lp lu ds vp vu (ss 0) ∧ (ss 0).p.length + (ss 0).u.length + os.length < 100000 ∧ os.length < 1000 ∧ (l, .lst os) ∈ L' ∧ rs.length = os.length ∧ (∀ i o, os[i]? = some o → ∃ r, rs[i]? = some r ∧ OpOk K F (ss i) o r (ss (i + 1))) ∧ S F L H ∧ ∀ q, BnPost K F ((q, .lst rs) :: L') b dx ds (ss os.length) (Q (.ref q))
theorem BnPost.mono {K : PySem.W.Frag} {F : List MP} {L' : List (Addr × HO)} {b dx ds : Addr} {s : BS} {R R' : Hp → Prop} (h : BnPost K F L' b dx ds s R) (q : ∀ H, R H → R' H) : BnPost K F L' b dx ds s R' := fun h2 lp lu vp vu H' z => q _ (h h2 lp lu vp vu H' z)
section
variable {K : PySem.W.Frag} {H : Hp} {Q : VK} {E : XK} {F : List MP} {L L' : List (Addr × HO)} {b dx h lp lu ds l : Addr} {s s' : BS} {vp vu os rs : List V} {ss : Nat → BS} {o r : V}
theorem c_isop (hS : S F L H) (e : OpW K F o) (k : ∀ H', S F L H' → Q (.bl true) H') : spIsOp K [o] H Q E := ⟨F, L, o, rfl, e, hS, k⟩
theorem c_exec (P : BnPre K F L L' b dx h lp lu ds vp vu s) (hl : s.p.length + s.u.length < 100000) (e : OpOk K F s o r s') (hS : S F L H) (k : BnPost K F L' b dx ds s' (Q r)) : spExec K [.ref b, o] H Q E := ⟨F, L, L', b, dx, h, lp, lu, ds, vp, vu, s, s', o, r, rfl, P, hl, e, hS, k⟩
theorem c_batch (P : BnPre K F L L' b dx h lp lu ds vp vu (ss 0)) (hl : (ss 0).p.length + (ss 0).u.length + os.length < 100000) (h1 : os.length < 1000) (m : (l, .lst os) ∈ L') (h2 : rs.length = os.length) (e : ∀ i o, os[i]? = some o → ∃ r, rs[i]? = some r ∧ OpOk K F (ss i) o r (ss (i + 1))) (hS : S F L H) (k : ∀ q, BnPost K F ((q, .lst rs) :: L') b dx ds (ss os.length) (Q (.ref q))) : spBatch K [.ref b, .ref l] H Q E := ⟨F, L, L', b, dx, h, lp, lu, ds, l, vp, vu, os, rs, ss, rfl, P, hl, h1, m, h2, e, hS, k⟩
theorem c_undo0 (P : BnPre K F L L' b dx h lp lu ds vp vu s) (hS : S F L H) (e : s.p = []) (k : BnPost K F L' b dx ds s (Q (.bl false))) : spUndo K [.ref b] H Q E := ⟨F, L, L', b, dx, h, lp, lu, ds, vp, vu, s, rfl, P, hS, .inl ⟨e, k⟩⟩
theorem c_undo1 {p : List Ent3} {w : Str} {d1 d2 : HD} (P : BnPre K F L L' b dx h lp lu ds vp vu s) (hS : S F L H) (e : s.p = p ++ [(w, d1, d2)]) (k : BnPost K F L' b dx ds ⟨d1, p, s.u ++ [(w, d1, d2)]⟩ (Q (.bl true))) : spUndo K [.ref b] H Q E := ⟨F, L, L', b, dx, h, lp, lu, ds, vp, vu, s, rfl, P, hS, .inr ⟨p, w, d1, d2, e, k⟩⟩
theorem c_redo0 (P : BnPre K F L L' b dx h lp lu ds vp vu s) (hS : S F L H) (e : s.u = []) (k : BnPost K F L' b dx ds s (Q (.bl false))) : spRedo K [.ref b] H Q E := ⟨F, L, L', b, dx, h, lp, lu, ds, vp, vu, s, rfl, P, hS, .inl ⟨e, k⟩⟩
theorem c_redo1 {u : List Ent3} {w : Str} {d1 d2 : HD} (P : BnPre K F L L' b dx h lp lu ds vp vu s) (hS : S F L H) (e : s.u = u ++ [(w, d1, d2)]) (k : BnPost K F L' b dx ds ⟨d2, s.p ++ [(w, d1, d2)], u⟩ (Q (.bl true))) : spRedo K [.ref b] H Q E := ⟨F, L, L', b, dx, h, lp, lu, ds, vp, vu, s, rfl, P, hS, .inr ⟨u, w, d1, d2, e, k⟩⟩
end
end TW
namespace TW
open PySem PySem.Spec PyProof.Rows L2
theorem OpOk.mono {K : PySem.W.Frag} {F F' : List MP} {s s' : BS} {o r : V} (q : ∀ g ∈ F, g ∈ F') (h : OpOk K F s o r s') : OpOk K F' s o r s' := by
  cases h with
  | chg e c m => exact .chg (e.mono q) (c.mono q) m
  | undo0 e h => exact .undo0 (e.mono q) h
  | undo1 e h => exact .undo1 (e.mono q) h
  | redo0 e h => exact .redo0 (e.mono q) h
  | redo1 e h => exact .redo1 (e.mono q) h
theorem OpW.mono {K : PySem.W.Frag} {F F' : List MP} {o : V} (q : ∀ g ∈ F, g ∈ F') (h : OpW K F o) : OpW K F' o := by
  cases h with
  | one e h => exact .one (e.mono q) h
  | two e h => exact .two (e.mono q) h
theorem r_tryN {K : PySem.W.Frag} {c : Value} {tb : WX → TS} {D : Ends} {σ : Sl} {H : Hp} (h : ∀ W, tb W D σ H) : tTryNever K c tb D σ H := h _
/-- the states along a list of operations -/
theorem run_ok {K : PySem.W.Frag} {F : List MP} {os rs : List V} {ss : Nat → BS} (h0 : (ss 0).ok) (hl : (ss 0).p.length + (ss 0).u.length + os.length < 100000) (e : ∀ i o, os[i]? = some o → ∃ r, rs[i]? = some r ∧ OpOk K F (ss i) o r (ss (i + 1))) : ∀ i, i ≤ os.length → (ss i).ok ∧ (ss i).p.length + (ss i).u.length ≤ (ss 0).p.length + (ss 0).u.length + i := by
  intro i
  induction i with
  | zero => exact fun _ => ⟨h0, Nat.le_refl _⟩
  | succ i ih =>
    intro hi
    obtain ⟨h1, h2⟩ := ih (by omega)
    obtain ⟨r, _, eo⟩ := e i os[i] (List.getElem?_eq_getElem hi)
    have h3 := eo.len
    exact ⟨eo.ok h1 (by omega), by omega⟩
end TW
namespace TW
open PySem PySem.Spec PyProof.Rows L2
/-- None, or a plain tuple of places -/
def dueP (v : V) (R : Option (List Int)) : MP := ⟨fun E => (v = .non ∧ R = none) ∨ ∃ q ps, v = .ref q ∧ R = some ps ∧ PlT E q (ps.map V.int),
  fun _ _ e h => h.imp id fun ⟨q, ps, a, b, c⟩ => ⟨q, ps, a, b, c.mono e⟩⟩
section
variable {K : PySem.W.Frag} {H : Hp} {Q : VK} {E : XK} {F : List MP} {L L' : List (Addr × HO)} {x p : Addr} {d : HD} {n c : Int} {ps : List Int} {v : V} {R : Option (List Int)}
theorem S.due (s : S F L H) (m : dueP v R ∈ F) : (v = .non ∧ R = none) ∨ ∃ q ps, v = .ref q ∧ R = some ps ∧ S (tuD q (ps.map V.int) :: F) L H := by
  rcases s.phi m with h | ⟨q, ps, rfl, rfl, _⟩
  · exact .inl h
  · refine .inr ⟨q, ps, rfl, rfl, s.put_ _ fun E e => ?_⟩
    rcases e _ m with ⟨h, _⟩ | ⟨q', ps', h1, h2, h3⟩
    · cases h
    · cases h1
      cases h2
      exact h3
theorem Ent.dueN : Ent F (dueP .non none) := fun _ _ => .inl ⟨rfl, rfl⟩
theorem Ent.dueS {q : Addr} (h : tuD q (ps.map V.int) ∈ F) : Ent F (dueP (.ref q) (some ps)) := fun E e => .inr ⟨q, ps, rfl, rfl, e _ h⟩
theorem Ent.dueD (h : dueP v R ∈ F) : Ent F (dtP K v (optD R)) := fun E e => by
  rcases e _ h with ⟨rfl, rfl⟩ | ⟨q, ps, rfl, rfl, z⟩
  · exact Ent.dnon E e
  · exact Ent.dpd (F := [tuD q (ps.map V.int)]) (Ent.plT List.mem_cons_self) E (fun f hf => by rw [List.mem_singleton.mp hf]; exact z)
end
def spLongerP (K : PySem.W.Frag) : Sp := fun vs H Q _ => ∃ (F : List MP) (L : List (Addr × HO)) (p : Addr) (c : Int) (ps : List Int), vs = [.ref p, .int c] ∧ 0 < c ∧ c ≤ 12 ∧ inR c ps ∧ ps.length ≤ 1000 ∧ tuD p (ps.map V.int) ∈ F ∧ S F L H ∧
  ∀ l ws H', S (tfP ws (ext c ps) :: F) ((l, .lst ws) :: L) H' → Q (.ref l) H'
def spPlanP (K : PySem.W.Frag) : Sp := fun vs H Q _ => ∃ (F : List MP) (L : List (Addr × HO)) (x : Addr) (d : HD) (n : Int), vs = [.ref x, .int n] ∧ d.ok ∧ hallP K x d ∈ F ∧ 0 ≤ n ∧ n ≤ 4 ∧ S F L H ∧
  ∀ v H', S (dueP v (fnd (Gd d) (flay d.cl.length (n.toNat + 1))) :: F) L H' → Q v H'
section
variable {K : PySem.W.Frag} {H : Hp} {Q : VK} {E : XK} {F : List MP} {L L' : List (Addr × HO)} {x p : Addr} {d : HD} {n c : Int} {ps : List Int}
theorem c_longerP (s : S F L H) (e : tuD p (ps.map V.int) ∈ F) (c0 : 0 < c) (c1 : c ≤ 12) (hi : inR c ps) (h4 : ps.length ≤ 1000) (k : ∀ l ws H', S (tfP ws (ext c ps) :: F) ((l, .lst ws) :: L) H' → Q (.ref l) H') : spLongerP K [.ref p, .int c] H Q E := ⟨F, L, p, c, ps, rfl, c0, c1, hi, h4, e, s, k⟩
theorem c_planP (s : S F L H) (m : hallP K x d ∈ F) (ok : d.ok) (n0 : 0 ≤ n) (n4 : n ≤ 4) (k : ∀ v H', S (dueP v (fnd (Gd d) (flay d.cl.length (n.toNat + 1))) :: F) L H' → Q v H') : spPlanP K [.ref x, .int n] H Q E := ⟨F, L, x, d, n, rfl, ok, m, n0, n4, s, k⟩
end
end TW
namespace TW
open PySem PySem.Spec PyProof.Rows L2
/-- max(t) of a tuple of ints -/
def rMaxT (K : PySem.W.Frag) : List V → Hp → VK → Prop := fun vs H Q => ∃ (a : Addr) (n : Int) (ns : List Int), vs = [.ref a] ∧ SqT K H a ((n :: ns).map V.int) ∧ ∀ m, m ∈ n :: ns → (∀ y, y ∈ n :: ns → y ≤ m) → Q (.int m) H
theorem foldl_max_mem : ∀ (ns : List Int) (n : Int), ns.foldl max n ∈ n :: ns ∧ ∀ y ∈ n :: ns, y ≤ ns.foldl max n
  | [], n => ⟨List.mem_cons_self, fun y hy => by rw [List.mem_singleton.mp hy]; exact Int.le_refl _⟩
  | k :: ns, n => by
    obtain ⟨h1, h2⟩ := foldl_max_mem ns (max n k)
    rw [List.foldl_cons]
    refine ⟨?_, fun y hy => ?_⟩
    · rcases List.mem_cons.mp h1 with h | h
      · rw [h]
        rcases (show max n k = n ∨ max n k = k by omega) with e | e
        · rw [e]; exact List.mem_cons_self
        · rw [e]; exact List.mem_cons_of_mem _ List.mem_cons_self
      · exact List.mem_cons_of_mem _ (List.mem_cons_of_mem _ h)
    · have h0 := h2 (max n k) List.mem_cons_self
      rcases List.mem_cons.mp hy with rfl | hy
      · omega
      · rcases List.mem_cons.mp hy with rfl | hy
        · omega
        · exact h2 y (List.mem_cons_of_mem _ hy)
theorem depth_ints : ∀ ns : List Int, PyData.depthAll (ns.map PyData.int) = 0
  | [] => rfl
  | n :: ns => by
    rw [List.map_cons]
    unfold PyData.depthAll
    rw [depth_ints ns]
    rfl
theorem c_maxT {X : Cx} (K : PySem.W.Frag) (hc : X.calm = true) (hu : X.A.units + 64 < cLine) (hK : X.K = K := by rfl) : CallR X (.builtin "max") (rMaxT K) := by
  subst hK
  intro pins s σ H vs us Q I r h
  obtain ⟨a, n, ns, rfl, hs, q⟩ := h
  obtain ⟨its, rv, hl, _⟩ := I.tuple hs
  rw [Vals.ref1 r]
  have hr : ReadsAll s.heap its.toArray.toList (PyData.int n :: ns.map PyData.int) [] := IntsAre.reads s.heap (ns := n :: ns) rv.ints
  refine PySem.W.max_tuple_data (I.ok.hd hc) hl hr ⟨fun x hx y hy => ?_, fun x hx => ?_⟩ ?_ fun i v h' tk bs hv hrd hk => ?_
  · obtain ⟨i, _, rfl⟩ := List.mem_map.mp (show x ∈ (n :: ns).map PyData.int from hx)
    obtain ⟨j, _, rfl⟩ := List.mem_map.mp (show y ∈ (n :: ns).map PyData.int from hy)
    rfl
  · obtain ⟨i, _, rfl⟩ := List.mem_map.mp (show x ∈ (n :: ns).map PyData.int from hx)
    exact fun z => by cases z
  · rw [show PyData.int n :: ns.map PyData.int = (n :: ns).map PyData.int from rfl, depth_ints]
    omega
  · rw [PySem.W.maxD_ints] at hrd
    cases hrd
    obtain ⟨h1, h2⟩ := foldl_max_mem ns n
    exact ⟨.int _, H, I.kept hk, ⟨_, rfl⟩, q _ h1 h2⟩
theorem x_maxT {K : PySem.W.Frag} {H : Hp} {Q : VK} {p : Addr} {ns : List Int} (h : SqT K H p (ns.map V.int)) (h0 : 0 < ns.length) (q : ∀ m, m ∈ ns → (∀ y, y ∈ ns → y ≤ m) → Q (.int m) H) : rMaxT K [.ref p] H Q := by
  cases ns with
  | nil => cases h0
  | cons n ns => exact ⟨p, n, ns, rfl, h, q⟩
end TW
namespace TW
open PySem PySem.Spec PyProof.Rows L2
/-! ### what is answered about a hall, as data that the hall's numbers tell -/
open Classical in
noncomputable def theD (P : PyData → Prop) : PyData := if h : ∃ v, P v then Classical.choose h else .none
theorem theD_eq {P : PyData → Prop} {v : PyData} (h : P v) (u : ∀ w, P w → w = v) : theD P = v := by
  unfold theD
  rw [dif_pos ⟨v, h⟩]
  exact u _ (Classical.choose_spec (p := P) ⟨v, h⟩)
noncomputable def niA (P : V → Prop) : PyData := theD fun x => ∃ v, P v ∧ x = niD v
theorem niA_eq {P : V → Prop} {v : V} (h : P v) (u : ∀ w, P w → w = v) : niA P = niD v :=
  theD_eq ⟨v, h, rfl⟩ fun x ⟨w, hw, e⟩ => by rw [e, u w hw]
theorem alike_rfl {d : HD} : Alike d d := ⟨rfl, rfl, fun _ => rfl, fun _ => rfl, ⟨0, by rw [Nat.zero_add, Nat.one_mul]⟩⟩
noncomputable def mostA (d : HD) : PyData := niA (MostV d)
noncomputable def longA (d : HD) : PyData := niA (LongV d)
noncomputable def firstA (d : HD) : PyData := niA (First (Mis d))
noncomputable def lastA (d : HD) : PyData := niA (Last (ClearAt d) 100)
theorem mostA_eq {d : HD} (ok : d.ok) {v : V} (h : MostV d v) : mostA d = niD v := niA_eq h fun w hw => h.to alike_rfl ok ok hw
theorem longA_eq {d : HD} {v : V} (h : LongV d v) : longA d = niD v := niA_eq h fun w hw => h.to alike_rfl hw
theorem firstA_eq {d : HD} {v : V} (h : First (Mis d) v) : firstA d = niD v := niA_eq h fun w hw => hw.uniq h
theorem lastA_eq {d : HD} {v : V} (h : Last (ClearAt d) 100 v) : lastA d = niD v := niA_eq h fun w hw => hw.uniq h
noncomputable def clsA (d : HD) : PyData := theD fun x => (x = .none ∧ ∀ t, ¬ Clash d t) ∨ ∃ t : Nat, Clash d t ∧ (∀ s, s < t → ¬ Clash d s) ∧ x = .tuple [.int t, .int (d.C ((t : Int) - d.lt).toNat), .int (d.C ((t : Int) - d.lt).toNat + d.m)]
theorem clsA_none {d : HD} (h : ∀ t, ¬ Clash d t) : clsA d = .none := theD_eq (.inl ⟨rfl, h⟩) fun w hw => by
  rcases hw with ⟨e, _⟩ | ⟨t, ht, _, _⟩
  · exact e
  · exact absurd ht (h t)
theorem clsA_some {d : HD} {t : Nat} (h : Clash d t) (f : ∀ s, s < t → ¬ Clash d s) : clsA d = .tuple [.int t, .int (d.C ((t : Int) - d.lt).toNat), .int (d.C ((t : Int) - d.lt).toNat + d.m)] := theD_eq (.inr ⟨t, h, f, rfl⟩) fun w hw => by
  rcases hw with ⟨e, z⟩ | ⟨s, hs, fs, e⟩
  · exact absurd h (z t)
  · have : s = t := by
      rcases Nat.lt_trichotomy s t with z | z | z
      · exact absurd hs (f s z)
      · exact z
      · exact absurd h (fs t z)
    rw [e, this]
noncomputable def timA (d : HD) (n : Int) : PyData := theD fun x => (x = .none ∧ d.T d.per = 0) ∨ ∃ (t : Nat) (v : V), 0 < d.T d.per ∧ d.T t ≤ n ∧ n < d.T (t + 1) ∧ CallAt d n v ∧ x = .tuple [.int t, niD v]
theorem timA_none {d : HD} {n : Int} (h : d.T d.per = 0) : timA d n = .none := theD_eq (.inl ⟨rfl, h⟩) fun w hw => by
  rcases hw with ⟨e, _⟩ | ⟨t, v, h1, _⟩
  · exact e
  · omega
theorem timA_some {d : HD} {n : Int} {t : Nat} {v : V} (ok : d.ok) (h : 0 < d.T d.per) (h1 : d.T t ≤ n) (h2 : n < d.T (t + 1)) (c : CallAt d n v) : timA d n = .tuple [.int t, niD v] := theD_eq (.inr ⟨t, v, h, h1, h2, c, rfl⟩) fun w hw => by
  rcases hw with ⟨e, z⟩ | ⟨s, u, _, a1, a2, b, e⟩
  · omega
  · rw [e, HD.T_uniq ok a1 a2 h1 h2, CallAt.uniq alike_rfl ok ok c b]
/-- a value that is no list, as data -/
def flP (K : PySem.W.Frag) (v : V) (d : PyData) : MP := ⟨fun E => Dp K E v d ∧ ∃ n, n ∈ kinds ∧ n ≠ "list" ∧ TyX K E v (.type n), fun _ _ s h => ⟨dpM s h.1, let ⟨n, a, b, c⟩ := h.2; ⟨n, a, b, tyX_mono s c⟩⟩⟩
section
variable {K : PySem.W.Frag} {F : List MP} {L L' : List (Addr × HO)} {H : Hp} {Q : VK} {E : XK} {v : V} {d : HD} {x : Addr} {D : PyData} {p : Addr} {xs : List V} {ds : List PyData} {n : Int}
theorem Ent.flD (h : flP K v D ∈ F) : Ent F (dtP K v D) := fun E e => (e _ h).1
theorem Ent.flT (h : Ent F (tuF K p xs)) (g : Ent F (dsP K xs ds)) : Ent F (flP K (.ref p) (.tuple ds)) := fun E e => ⟨.tup (h E e) (g E e), "tuple", by decide, by decide, ty_tup (h E e)⟩
theorem Ent.flN (h : NI v) : Ent F (flP K v (niD v)) := fun E e => ⟨dp_ni h, by
  rcases h with rfl | ⟨i, rfl⟩
  · exact ⟨"NoneType", by decide, by decide, ty_non⟩
  · exact ⟨"int", by decide, by decide, ty_int⟩⟩
theorem Ent.flS {z : Str} : Ent F (flP K (.str z) (.str z)) := fun E e => ⟨.str z, "str", by decide, by decide, ty_str⟩
theorem Ent.flC (h : clsP K v d ∈ F) : Ent F (flP K v (clsA d)) := fun E e => by
  rcases (e _ h : (v = .non ∧ _) ∨ _) with ⟨rfl, z⟩ | ⟨p, t, rfl, c, f, q⟩
  · rw [clsA_none z]
    exact ⟨.non, "NoneType", by decide, by decide, ty_non⟩
  · rw [clsA_some c f]
    exact ⟨.tup q (.cons (.int _) (.cons (.int _) (.cons (.int _) .nil))), "tuple", by decide, by decide, ty_tup q⟩
theorem c_clashA (s : S F L H) (pl : Pull (T, .tbl ps) L L') (ht : tcP lamQ ps ∈ F) (hx : hallP K x d ∈ F) (ok : d.ok) (k : ∀ v ps' H', S (flP K v (clsA d) :: tcP lamQ ps' :: F) ((T, .tbl ps') :: L') H' → Q v H') : spClash K T [.ref x] H Q E :=
  c_clashV s pl ht hx ok fun v ps' H' hS => k v ps' H' ((hS.put_ _ (Ent.flC (K := K) (d := d) (v := v) List.mem_cons_self)).mono (fun g hg => by
    rcases List.mem_cons.mp hg with a | a
    · exact List.mem_cons.mpr (.inl a)
    · exact List.mem_cons_of_mem _ (List.mem_cons_of_mem _ a)) (List.Sublist.refl _))
theorem c_timesA (s : S F L H) (e : hallP K x d ∈ F) (ok : d.ok) (h0 : 0 ≤ n) (h1 : n ≤ 1000000000000000000) (k : ∀ v H', S (flP K v (timA d n) :: F) L H' → Q v H') : spTimes K [.ref x, .int n] H Q E :=
  c_times s e ok h0 h1 (fun z H' hS => k _ _ (by rw [timA_none z]; exact hS.put_ _ (Ent.flN (v := .non) (.inl rfl)))) fun t v p H' a b c f hS => k _ _ (by
    have nv : NI v := by
      rcases f with ⟨rfl, _⟩ | ⟨u, rfl, _⟩
      · exact .inl rfl
      · exact .inr ⟨_, rfl⟩
    rw [timA_some ok a b c f]
    exact ((hS.put_ (flP K (.ref p) (.tuple [.int t, niD v])) (Ent.flT (Ent.mem List.mem_cons_self) (Ent.dcons Ent.dint (Ent.done fun E e => dp_ni nv)))).mono (fun g hg => by
    rcases List.mem_cons.mp hg with a | a
    · exact List.mem_cons.mpr (.inl a)
    · exact List.mem_cons_of_mem _ (List.mem_cons_of_mem _ a)) (List.Sublist.refl _)))
theorem c_mostA (s : S F L H) (e : hallP K x d ∈ F) (ok : d.ok) (k : ∀ v, NI v → ∀ H', S (flP K v (mostA d) :: F) L H' → Q v H') : spMost K gMost [.ref x] H Q E :=
  c_mostV s e ok fun v hv H' hS => k v hv.ni H' (hS.put_ _ (by rw [mostA_eq ok hv]; exact Ent.flN hv.ni))
theorem c_longA (s : S F L H) (e : hallP K x d ∈ F) (ok : d.ok) (k : ∀ v, NI v → ∀ H', S (flP K v (longA d) :: F) L H' → Q v H') : spLong K [.ref x] H Q E :=
  c_longV s e ok fun v hv H' hS => k v hv.ni H' (hS.put_ _ (by rw [longA_eq hv]; exact Ent.flN hv.ni))
theorem S.flTy (s : S F L H) (h : flP K v D ∈ F) : ∃ n, n ∈ kinds ∧ n ≠ "list" ∧ S (tyP K v n :: F) L H := by
  obtain ⟨E, h1, h2, h3⟩ := s.ex
  obtain ⟨_, n, a, b, c⟩ := h2 _ h
  refine ⟨n, a, b, ⟨E, h1, fun g hg => ?_, h3⟩, s.cell, s.nd⟩
  rcases List.mem_cons.mp hg with rfl | hg
  · exact c
  · exact h2 _ hg
/-- no list -/
theorem x_noList (s : S F L H) (h : flP K v D ∈ F) (q : Q (.bl false) H) : rIsi K [v, .ty "list"] H Q := by
  obtain ⟨n, a, b, hS⟩ := s.flTy h
  refine x_isi (hS.phi (f := tyP K v n) List.mem_cons_self) ?_ q
  simp only [kinds, List.mem_cons, List.not_mem_nil, or_false] at a
  rcases a with rfl | rfl | rfl | rfl | rfl | rfl
  · rfl
  · rfl
  · rfl
  · rfl
  · rfl
  · exact absurd rfl b
theorem Ent.dev {es : List (Str × Int × Int)} {ws : List V} (h : evP K ws es ∈ F) : Ent F (dsP K ws (evD es)) := fun E e => ev_dp (e _ h)
theorem Ent.dpr {es : List (Int × Int)} {ws : List V} (h : prP K ws es ∈ F) : Ent F (dsP K ws (prD es)) := fun E e => dp_prs (e _ h)
theorem Ent.dni {ws : List V} (h : ∀ v ∈ ws, NI v) : Ent F (dsP K ws (ws.map niD)) := fun E e => dpa_ni h
end
theorem ecode_le {d : HD} (ok : d.ok) : (ecode d).length ≤ 40 := by
  have := ok.t1
  have := ok.c1
  rw [ecode_eq]
  simp only [List.length_cons, List.length_append, List.length_nil]
  omega
theorem nxP_len {us : List V} : (nxP us).length ≤ 1 := by
  unfold nxP
  split <;> simp
noncomputable def nxA (d : HD) : PyData := theD fun x => ∃ zs, Asc zs ∧ (∀ k, k ∈ zs ↔ k ∈ intsV (shF d (iv 0 d.dis) ((0 : Nat) : Int))) ∧ zs.length ≤ 5000 ∧ x = .list ((nxP (shF d (iv 0 d.dis) ((0 : Nat) : Int)) ++ zs.map V.int).map niD)
def unl : PyData → List PyData
  | .list ds => ds
  | _ => []
theorem nxA_eq {d : HD} {zs : List Int} (h1 : Asc zs) (h2 : ∀ k, k ∈ zs ↔ k ∈ intsV (shF d (iv 0 d.dis) ((0 : Nat) : Int))) (h3 : zs.length ≤ 5000) : unl (nxA d) = (nxP (shF d (iv 0 d.dis) ((0 : Nat) : Int)) ++ zs.map V.int).map niD := by
  have e : nxA d = .list ((nxP (shF d (iv 0 d.dis) ((0 : Nat) : Int)) ++ zs.map V.int).map niD) := theD_eq ⟨zs, h1, h2, h3, rfl⟩ fun w ⟨ys, a, b, _, e⟩ => by
    rw [e, asc_eq a h1 fun y => (b y).trans (h2 y).symm]
  rw [e]; rfl
noncomputable def ResA (d : HD) : List PyData := [.list (evD (d.evs (2 : Int).toNat ((4 : Int) - 2).toNat)), .list ((btw d.m 1 (d.C ((5 : Int) - d.lt).toNat) (d.T ((5 : Int) + 1).toNat)).map .int), .list (prD (MstL d (3 : Int).toNat)), .list ((ecode d).map .int), .tuple [.int (d.C ((4 : Int) - d.lt).toNat), .int (d.O (4 : Int).toNat)], clsA d, mostA d, timA d 3, longA d, .str (htext d), .list ((iv 0 d.dis).map .int), .list (unl (nxA d))]
/-! how wide and deep the results are -/
theorem theD_all {P : PyData → Prop} {C : PyData → Prop} (h0 : C .none) (h : ∀ w, P w → C w) : C (theD P) := by
  unfold theD
  split
  · rename_i z
    exact h _ (Classical.choose_spec z)
  · exact h0
/-- of moderate size: wide, and at most n deep -/
def wd (n : Nat) (x : PyData) : Prop := wide x = true ∧ x.depth ≤ n
theorem wd_non {n : Nat} : wd n .none := ⟨rfl, Nat.zero_le _⟩
theorem wd_int {n : Nat} {i : Int} : wd n (.int i) := ⟨rfl, Nat.zero_le _⟩
theorem wd_str {n : Nat} {z : Str} : wd n (.str z) := ⟨rfl, Nat.zero_le _⟩
theorem wd_ni {n : Nat} {v : V} : wd n (niD v) := by
  cases v <;> exact ⟨rfl, Nat.zero_le _⟩
theorem wd_lst {n : Nat} {xs : List PyData} (h : xs.length ≤ 100000) (q : ∀ x ∈ xs, wd n x) : wd (n + 1) (.list xs) := by
  refine ⟨?_, ?_⟩
  · show (decide (xs.length ≤ 100000) && wideAll xs) = true
    rw [decide_eq_true h, wideAll_of fun x hx => (q x hx).1]; rfl
  · show PyData.depthAll xs + 1 ≤ n + 1
    have := depAll_of fun x hx => (q x hx).2
    omega
theorem wd_tup {n : Nat} {xs : List PyData} (h : xs.length ≤ 100000) (q : ∀ x ∈ xs, wd n x) : wd (n + 1) (.tuple xs) := by
  refine ⟨?_, ?_⟩
  · show (decide (xs.length ≤ 100000) && wideAll xs) = true
    rw [decide_eq_true h, wideAll_of fun x hx => (q x hx).1]; rfl
  · show PyData.depthAll xs + 1 ≤ n + 1
    have := depAll_of fun x hx => (q x hx).2
    omega
theorem wd_mono {n m : Nat} {x : PyData} (h : wd n x) (l : n ≤ m) : wd m x := ⟨h.1, Nat.le_trans h.2 l⟩
theorem wd_evs {es : List (Str × Int × Int)} : ∀ x ∈ evD es, wd 1 x := fun x hx => by
  obtain ⟨e, _, rfl⟩ := List.mem_map.mp hx
  exact wd_tup (n := 0) (Nat.le_of_ble_eq_true rfl) fun y hy => by
    simp only [List.mem_cons, List.not_mem_nil, or_false] at hy
    rcases hy with rfl | rfl | rfl <;> first | exact wd_str | exact wd_int
theorem wd_prs {es : List (Int × Int)} : ∀ x ∈ prD es, wd 1 x := fun x hx => by
  obtain ⟨e, _, rfl⟩ := List.mem_map.mp hx
  exact wd_tup (n := 0) (Nat.le_of_ble_eq_true rfl) fun y hy => by
    simp only [List.mem_cons, List.not_mem_nil, or_false] at hy
    rcases hy with rfl | rfl <;> exact wd_int
theorem wd_ints {n : Nat} {es : List Int} : ∀ x ∈ es.map PyData.int, wd n x := fun x hx => by
  obtain ⟨e, _, rfl⟩ := List.mem_map.mp hx
  exact wd_int
theorem wd_niA {n : Nat} {P : V → Prop} : wd n (niA P) := theD_all wd_non fun w ⟨v, _, e⟩ => by rw [e]; exact wd_ni
theorem wd_cls {d : HD} : wd 1 (clsA d) := theD_all wd_non fun w hw => by
  rcases hw with ⟨e, _⟩ | ⟨t, _, _, e⟩
  · rw [e]; exact wd_non
  · rw [e]
    exact wd_tup (n := 0) (Nat.le_of_ble_eq_true rfl) fun y hy => by
      simp only [List.mem_cons, List.not_mem_nil, or_false] at hy
      rcases hy with rfl | rfl | rfl <;> exact wd_int
theorem wd_tim {d : HD} {n : Int} : wd 1 (timA d n) := theD_all wd_non fun w hw => by
  rcases hw with ⟨e, _⟩ | ⟨t, v, _, _, _, _, e⟩
  · rw [e]; exact wd_non
  · rw [e]
    exact wd_tup (n := 0) (Nat.le_of_ble_eq_true rfl) fun y hy => by
      simp only [List.mem_cons, List.not_mem_nil, or_false] at hy
      rcases hy with rfl | rfl <;> first | exact wd_int | exact wd_ni
theorem wd_nx {d : HD} : wd 1 (.list (unl (nxA d))) := by
  have : (∃ xs, nxA d = .list xs ∧ wd 1 (.list xs)) ∨ nxA d = .none := theD_all (C := fun x => (∃ xs, x = .list xs ∧ wd 1 (.list xs)) ∨ x = .none) (.inr rfl) fun w ⟨zs, _, _, l, e⟩ => .inl ⟨_, e, wd_lst (n := 0) (by
    have := nxP_len (us := shF d (iv 0 d.dis) ((0 : Nat) : Int))
    rw [List.length_map, List.length_append, List.length_map]; omega) fun x hx => by
      obtain ⟨v, _, rfl⟩ := List.mem_map.mp hx
      exact wd_ni⟩
  rcases this with ⟨xs, e, h⟩ | e
  · rw [e]; exact h
  · rw [e]; exact wd_lst (n := 0) (Nat.zero_le _) fun x hx => nomatch hx
theorem wd_res {d : HD} (ok : d.ok) (h1 : (btw d.m 1 (d.C ((5 : Int) - d.lt).toNat) (d.T ((5 : Int) + 1).toNat)).length ≤ 100000) (h2 : (MstL d (3 : Int).toNat).length ≤ 100000) (h3 : d.dis ≤ 5000) : wd 3 (.list (ResA d)) := by
  have e1 := HD.evs_len ok 2 2
  have e2 := ecode_le ok
  refine wd_lst (n := 2) (Nat.le_of_ble_eq_true rfl) fun x hx => ?_
  unfold ResA at hx
  simp only [List.mem_cons, List.not_mem_nil, or_false] at hx
  rcases hx with rfl | rfl | rfl | rfl | rfl | rfl | rfl | rfl | rfl | rfl | rfl | rfl
  · exact wd_lst (n := 1) (by unfold evD; rw [List.length_map]; exact Nat.le_trans e1 (by decide)) wd_evs
  · exact wd_lst (n := 1) (by rw [List.length_map]; exact h1) wd_ints
  · exact wd_lst (n := 1) (by unfold prD; rw [List.length_map]; exact h2) wd_prs
  · exact wd_lst (n := 1) (by rw [List.length_map]; omega) wd_ints
  · exact wd_tup (n := 1) (Nat.le_of_ble_eq_true rfl) fun y hy => by
      simp only [List.mem_cons, List.not_mem_nil, or_false] at hy
      rcases hy with rfl | rfl <;> exact wd_int
  · exact wd_mono wd_cls (by decide)
  · exact wd_niA
  · exact wd_mono wd_tim (by decide)
  · exact wd_niA
  · exact wd_str
  · exact wd_lst (n := 1) (by rw [List.length_map]; have := iv_len (a := 0) (b := (d.dis : Int)); omega) wd_ints
  · exact wd_mono wd_nx (by decide)
def spResults (K : PySem.W.Frag) (Tb : Addr) : Sp := fun vs H Q _ => ∃ (F : List MP) (L L' : List (Addr × HO)) (x : Addr) (d : HD) (ts : Array Value), vs = [.ref x] ∧ d.ok ∧ d.tk.length ≤ 3 ∧ d.cl.length ≤ 3 ∧ d.m ≤ 10 ∧ hallP K x d ∈ F ∧ tcP lamQ ts ∈ F ∧ Pull (Tb, .tbl ts) L L' ∧ S F L H ∧
  ∀ (l a1 a2 a3 a4 a5 a6 : Addr) (w1 w2 w3 w4 w5 w6 : List V) (v1 v2 v3 v4 v5 : V) (ts' : Array Value) H', wd 3 (.list (ResA d)) → w1.length ≤ 20000 → w2.length ≤ 20000 → w3.length ≤ 20000 → w4.length ≤ 20000 → w5.length ≤ 20000 → w6.length ≤ 20000 →
    S (dsP K w1 (evD (d.evs (2 : Int).toNat ((4 : Int) - 2).toNat)) :: dsP K w2 ((btw d.m 1 (d.C ((5 : Int) - d.lt).toNat) (d.T ((5 : Int) + 1).toNat)).map .int) :: dsP K w3 (prD (MstL d (3 : Int).toNat)) :: dsP K w4 ((ecode d).map .int) ::
      flP K v1 (.tuple [.int (d.C ((4 : Int) - d.lt).toNat), .int (d.O (4 : Int).toNat)]) :: flP K v2 (clsA d) :: flP K v3 (mostA d) :: flP K v4 (timA d 3) :: flP K v5 (longA d) :: dsP K w5 ((iv 0 d.dis).map .int) :: dsP K w6 (unl (nxA d)) :: tcP lamQ ts' :: F)
      ((l, .lst [.ref a1, .ref a2, .ref a3, .ref a4, v1, v2, v3, v4, v5, .str (htext d), .ref a5, .ref a6]) :: (a1, .lst w1) :: (a2, .lst w2) :: (a3, .lst w3) :: (a4, .lst w4) :: (a5, .lst w5) :: (a6, .lst w6) :: (Tb, .tbl ts') :: L') H' → Q (.ref l) H'
theorem dint_map {xs : List Int} {K : PySem.W.Frag} {F : List MP} : Ent F (dsP K (xs.map V.int) (xs.map PyData.int)) := Ent.dints
/-! ### ranges turn by turn -/
section
variable {K : PySem.W.Frag} {σ : Sl} {H : Hp} {Q : VK} {v x y : V} {F : List MP} {L L' : List (Addr × HO)} {tt : TT} {te : TE} {D : Ends} {ts : TS} {g : TG} {lo : Int} {n : Nat}
def RunR (f : V → (Hp → Prop) → Hp → Prop) (R : Hp → Prop) : List V → Hp → Prop
  | [], H => R H
  | x :: ys, H => f x (RunR f R ys) H
theorem r_rurN {f : V → (Hp → Prop) → Hp → Prop} {R : Hp → Prop} (q : R H) : RunR f R [] H := q
theorem r_rurC {f : V → (Hp → Prop) → Hp → Prop} {R : Hp → Prop} {ys : List V} (q : f x (RunR f R ys) H) : RunR f R (x :: ys) H := q
theorem rng_get {i : Nat} (h : i < n) : ((List.range n).map fun k => V.int (lo + (k : Nat)))[i]? = some (V.int (lo + (i : Nat))) := by
  rw [List.getElem?_map, List.getElem?_range h]; rfl
theorem k_lcRu {vs : List Nat} {σw : Sl} (xs : List V) (hx : ((List.range n).map fun k => V.int (lo + (k : Nat))) = xs) (hw : Wip vs σ σw) (s : S F L H) (h : ∀ l H1, S F ((l, .lst []) :: L) H1 → RunR (fun x N H => g x σw H fun σ2 H2 => kWip vs σw σ2 (tt σ2 H2 fun b H3 => if b = true then te σ2 H3 (kEnd l N) else N H3)) (fun H => Q (.ref l) H) xs H1) : kLc (Itr lo n) g tt te vs σ H Q := by
  subst hx
  refine k_lcR hw s (fun l i H1 => RunR (fun x N H => g x σw H fun σ2 H2 => kWip vs σw σ2 (tt σ2 H2 fun b H3 => if b = true then te σ2 H3 (kEnd l N) else N H3)) (fun H => Q (.ref l) H) (((List.range n).map fun k => V.int (lo + (k : Nat))).drop i) H1) (fun l H1 s => h l H1 s) (fun l i H1 hi e => ?_) (fun l H1 e => ?_)
  · obtain ⟨hlt, hx⟩ := List.getElem?_eq_some_iff.mp (rng_get (lo := lo) hi)
    rw [List.drop_eq_getElem_cons hlt, hx] at e
    exact e
  · rw [List.drop_of_length_le (by rw [List.length_map, List.length_range]; exact Nat.le_refl _)] at e
    exact e
theorem c_results {Tb x : Addr} {ts : Array Value} {d : HD} {E : XK} (s : S F L H) (m : hallP K x d ∈ F) (ok : d.ok) (t3 : d.tk.length ≤ 3) (c3 : d.cl.length ≤ 3) (m10 : d.m ≤ 10) (ht : tcP lamQ ts ∈ F) (pl : Pull (Tb, .tbl ts) L L')
  (k : ∀ (l a1 a2 a3 a4 a5 a6 : Addr) (w1 w2 w3 w4 w5 w6 : List V) (v1 v2 v3 v4 v5 : V) (ts' : Array Value) H', wd 3 (.list (ResA d)) → w1.length ≤ 20000 → w2.length ≤ 20000 → w3.length ≤ 20000 → w4.length ≤ 20000 → w5.length ≤ 20000 → w6.length ≤ 20000 →
    S (dsP K w1 (evD (d.evs (2 : Int).toNat ((4 : Int) - 2).toNat)) :: dsP K w2 ((btw d.m 1 (d.C ((5 : Int) - d.lt).toNat) (d.T ((5 : Int) + 1).toNat)).map .int) :: dsP K w3 (prD (MstL d (3 : Int).toNat)) :: dsP K w4 ((ecode d).map .int) ::
      flP K v1 (.tuple [.int (d.C ((4 : Int) - d.lt).toNat), .int (d.O (4 : Int).toNat)]) :: flP K v2 (clsA d) :: flP K v3 (mostA d) :: flP K v4 (timA d 3) :: flP K v5 (longA d) :: dsP K w5 ((iv 0 d.dis).map .int) :: dsP K w6 (unl (nxA d)) :: tcP lamQ ts' :: F)
      ((l, .lst [.ref a1, .ref a2, .ref a3, .ref a4, v1, v2, v3, v4, v5, .str (htext d), .ref a5, .ref a6]) :: (a1, .lst w1) :: (a2, .lst w2) :: (a3, .lst w3) :: (a4, .lst w4) :: (a5, .lst w5) :: (a6, .lst w6) :: (Tb, .tbl ts') :: L') H' → Q (.ref l) H') : spResults K Tb [.ref x] H Q E :=
  ⟨F, L, L', x, d, ts, rfl, ok, t3, c3, m10, m, ht, pl, s, k⟩
end
section
variable {K : PySem.W.Frag} {F : List MP} {L : List (Addr × HO)} {H : Hp} {d : HD} {l a1 a2 a3 a4 a5 a6 : Addr} {w1 w2 w3 w4 w5 w6 : List V} {v1 v2 v3 v4 v5 : V}
/-- the results, told as one piece of data -/
theorem res_frz (s : S F ((a1, .lst w1) :: (a2, .lst w2) :: (a3, .lst w3) :: (a4, .lst w4) :: (a5, .lst w5) :: (a6, .lst w6) :: (l, .lst [.ref a1, .ref a2, .ref a3, .ref a4, v1, v2, v3, v4, v5, .str (htext d), .ref a5, .ref a6]) :: L) H)
    (m1 : dsP K w1 (evD (d.evs (2 : Int).toNat ((4 : Int) - 2).toNat)) ∈ F) (m2 : dsP K w2 ((btw d.m 1 (d.C ((5 : Int) - d.lt).toNat) (d.T ((5 : Int) + 1).toNat)).map .int) ∈ F) (m3 : dsP K w3 (prD (MstL d (3 : Int).toNat)) ∈ F) (m4 : dsP K w4 ((ecode d).map .int) ∈ F)
    (n1 : flP K v1 (.tuple [.int (d.C ((4 : Int) - d.lt).toNat), .int (d.O (4 : Int).toNat)]) ∈ F) (n2 : flP K v2 (clsA d) ∈ F) (n3 : flP K v3 (mostA d) ∈ F) (n4 : flP K v4 (timA d 3) ∈ F) (n5 : flP K v5 (longA d) ∈ F) (m5 : dsP K w5 ((iv 0 d.dis).map .int) ∈ F) (m6 : dsP K w6 (unl (nxA d)) ∈ F) :
    S (dtP K (.ref l) (.list (ResA d)) :: F) L H := by
  have s7 := s.frz.frz.frz.frz.frz.frz.frz
  refine (s7.put_ (dtP K (.ref l) (.list (ResA d))) (Ent.dlst (Ent.lis List.mem_cons_self) ?_)).mono (fun g hg => ?_) (List.Sublist.refl _)
  · have mm : ∀ {f : MP}, f ∈ F → f ∈ (cel l (.lst [.ref a1, .ref a2, .ref a3, .ref a4, v1, v2, v3, v4, v5, .str (htext d), .ref a5, .ref a6]) :: cel a6 (.lst w6) :: cel a5 (.lst w5) :: cel a4 (.lst w4) :: cel a3 (.lst w3) :: cel a2 (.lst w2) :: cel a1 (.lst w1) :: F) := fun h => List.mem_cons_of_mem _ (List.mem_cons_of_mem _ (List.mem_cons_of_mem _ (List.mem_cons_of_mem _ (List.mem_cons_of_mem _ (List.mem_cons_of_mem _ (List.mem_cons_of_mem _ h))))))
    have li : ∀ {q : Addr} {ws : List V} {ds : List PyData} {G : List MP}, cel q (.lst ws) ∈ G → dsP K ws ds ∈ G → Ent G (dtP K (.ref q) (.list ds)) := fun a b => Ent.dlst (Ent.lis a) (Ent.mem b)
    exact Ent.dcons (li (by simp) (mm m1)) (Ent.dcons (li (by simp) (mm m2)) (Ent.dcons (li (by simp) (mm m3)) (Ent.dcons (li (by simp) (mm m4)) (Ent.dcons (Ent.flD (mm n1)) (Ent.dcons (Ent.flD (mm n2)) (Ent.dcons (Ent.flD (mm n3)) (Ent.dcons (Ent.flD (mm n4)) (Ent.dcons (Ent.flD (mm n5)) (Ent.dcons Ent.dstr (Ent.dcons (li (by simp) (mm m5)) (Ent.done (li (by simp) (mm m6)))))))))))))
  · rcases List.mem_cons.mp hg with rfl | hg
    · exact List.mem_cons_self
    · exact List.mem_cons_of_mem _ (List.mem_cons_of_mem _ (List.mem_cons_of_mem _ (List.mem_cons_of_mem _ (List.mem_cons_of_mem _ (List.mem_cons_of_mem _ (List.mem_cons_of_mem _ (List.mem_cons_of_mem _ hg)))))))
end
end TW
namespace TW
open PySem PySem.Spec PyProof.Rows L2 LamX
/-! ### closures that raise and change what the maker lets them change -/
abbrev FL := List MP → List (Addr × HO) → Prop
/-- how a closure ends, told by a predicate of the state -/
def ErOutJ (K : PySem.W.Frag) (sp : Sp) (H : Hp) (Q : VK) : Prop :=
  (∃ G : FL, (∀ Q' E', (∀ F L v H', G F L → S F L H' → Q' v H') → sp [] H Q' E') ∧ ∀ F L H', G F L → S F L H' → Q .non H') ∨
  (∃ (G : FL) (C : Addr) (i : Nat) (tag : Str), XcK K C i ∧ i < 8 ∧ errU[i]? = some tag ∧ (∀ Q' E', (∀ F L H', G F L → S F L H' → E' (.ref C) none H') → sp [] H Q' E') ∧ ∀ F L q H', G F L → S (cel q (.tup [.str tag, .int 0]) :: F) L H' → Q (.ref q) H') ∨
  (∃ (G : FL) (C fI : Addr) (pv iv : V), XcK K C 8 ∧ OxK K C fI ["part", "index"] ∧ (∀ Q' E', (∀ F L d H', G F L → S (cel d (.xd [("index", iv), ("part", pv)]) :: F) L H' → E' (.ref C) (some d) H') → sp [] H Q' E') ∧
    ∀ F L q r H', G F L → S (cel q (.tup [.str "hall", .ref r]) :: cel r (.tup [pv, iv]) :: F) L H' → Q (.ref q) H') ∨
  (∃ (G : FL) (C fI : Addr) (i : Nat) (tag g : Str) (v : V), XcK K C i ∧ OxK K C fI [g] ∧ ((i = 9 ∧ g = "line") ∨ (i = 10 ∧ g = "place") ∨ (i = 11 ∧ g = "place")) ∧ errU[i]? = some tag ∧
    (∀ Q' E', (∀ F L d H', G F L → S (cel d (.xd [(g, v)]) :: F) L H' → E' (.ref C) (some d) H') → sp [] H Q' E') ∧ ∀ F L q H', G F L → S (cel q (.tup [.str tag, v]) :: F) L H' → Q (.ref q) H')
def spErJ (P : Program) (w : World) (K : PySem.W.Frag) (mg : Str → Option Value) (base : Heap) (k : Nat) : Sp := fun vs H Q _ => ∃ (f : Addr) (o : Obj) (sp : Sp), vs = [.ref f] ∧ H f = some (ExO f o) ∧ CloOk P w K mg base (L2.CX P w) k f o 0 sp ∧ ErOutJ K sp H Q
/-- what raising asks of the end -/
def ErEJ (G : FL) (C : Addr) (gs : Option (List (Str × V))) (E : XK) : Prop := match gs with
  | none => ∀ F L H', G F L → S F L H' → E (.ref C) none H'
  | some g => ∀ F L d H', G F L → S (cel d (.xd g) :: F) L H' → E (.ref C) (some d) H'
section
variable {P : Program} {w : World} {K : PySem.W.Frag} {mg : Str → Option Value} {base : Heap} {F F' : List MP} {L L' : List (Addr × HO)} {H H1 H2 : Hp} {cs : List (Addr × Obj)} {Q Q0 : VK} {E : XK} {sp : Sp} {d : PyData} {f c C dt l : Addr} {gs : Option (List (Str × V))} {q : Str} {o : Obj} {n : Int} {ws : List V} {ns : List Str} {tb : XK → TE} {kk k : Nat} {e : V} {fs : List Addr}
theorem er_outJ {G : FL} (kd : ErK K C gs d) (h : ∀ Q' E', ErEJ G C gs E' → sp [] H Q' E') (q : ∀ F L v H', G F L → S (dtP K v d :: F) L H' → Q v H') : ErOutJ K sp H Q := by
  cases kd with
  | @hall fI p i X O =>
    exact .inr (.inr (.inl ⟨G, C, fI, .str p, .int i, X, O, h, fun F L q0 r H' g s' => q F L _ _ g ((s'.put_ (dtP K (.ref q0) (dHall p i)) (Ent.dtup (Ent.tup List.mem_cons_self) (Ent.dcons Ent.dstr (Ent.done (Ent.dtup (Ent.tup (List.mem_cons_of_mem _ List.mem_cons_self)) (Ent.dcons Ent.dstr (Ent.done Ent.dint))))))).mono (fun g hg => by
      rcases List.mem_cons.mp hg with rfl | hg
      · exact List.mem_cons_self
      · exact List.mem_cons_of_mem _ (List.mem_cons_of_mem _ (List.mem_cons_of_mem _ hg))) (List.Sublist.refl _))⟩))
  | @plain i tag X hi ht =>
    exact .inr (.inl ⟨G, C, i, tag, X, hi, ht, h, fun F L q0 H' g s' => q F L _ _ g ((s'.put_ (dtP K (.ref q0) (dErr tag 0)) (Ent.dtup (Ent.tup List.mem_cons_self) (Ent.dcons Ent.dstr (Ent.done Ent.dint)))).mono (fun g hg => by
      rcases List.mem_cons.mp hg with rfl | hg
      · exact List.mem_cons_self
      · exact List.mem_cons_of_mem _ (List.mem_cons_of_mem _ hg)) (List.Sublist.refl _))⟩)
  | @field fI i tag g0 n X O hi ht =>
    exact .inr (.inr (.inr ⟨G, C, fI, i, tag, g0, .int n, X, O, hi, ht, h, fun F L q0 H' g s' => q F L _ _ g ((s'.put_ (dtP K (.ref q0) (dErr tag n)) (Ent.dtup (Ent.tup List.mem_cons_self) (Ent.dcons Ent.dstr (Ent.done Ent.dint)))).mono (fun g hg => by
      rcases List.mem_cons.mp hg with rfl | hg
      · exact List.mem_cons_self
      · exact List.mem_cons_of_mem _ (List.mem_cons_of_mem _ hg)) (List.Sublist.refl _))⟩))
/-- what the maker knows, with the cells that are captured -/
def celsF (cs : List (Addr × Obj)) : List MP := cs.map fun p => cel p.1 (ExO p.1 p.2)
theorem mem_celsF {p : Addr × Obj} (h : p ∈ cs) : cel p.1 (ExO p.1 p.2) ∈ celsF cs := List.mem_map.mpr ⟨p, h, rfl⟩
def GZ {Z : Type} (cs : List (Addr × Obj)) (Fz : Z → List MP) (Lz : Z → List (Addr × HO)) : FL := fun F L => ∃ (z : Z) (E : Hp), F = allP E :: celsF cs ∧ L = Lz z ∧ (∀ f ∈ Fz z, f.1 E) ∧ ∀ p ∈ cs, E p.1 = none
/-- the state inside: without the cells -/
theorem in_J {G0 X : List MP} {L0 : List (Addr × HO)} {E0 : Hp} (hF : ∀ f ∈ G0, f.1 E0) (hn : ∀ p ∈ cs, E0 p.1 = none) (s : S (allP E0 :: celsF cs ++ X) L0 H) :
    ∃ E1 : Hp, (∀ p ∈ cs, E1 p.1 = some (ExO p.1 p.2)) ∧ (∀ g ∈ X, g.1 E1) ∧ S (G0 ++ [allP (subs E1 cs)]) L0 (subs H cs) := by
  obtain ⟨E1, h1, h2, h3⟩ := s.ex
  have hx : ∀ p ∈ cs, E1 p.1 = some (ExO p.1 p.2) := fun p hp => h2 (cel p.1 (ExO p.1 p.2)) (List.mem_append.mpr (.inl (List.mem_cons_of_mem _ (mem_celsF hp))))
  have h0 : Same E0 E1 := h2 (allP E0) List.mem_cons_self
  have nk : ∀ {a : Addr} {u : HO}, E0 a = some u → a ∉ cs.map (·.1) := fun {a u} e z => by
    obtain ⟨p, hp, rfl⟩ := List.mem_map.mp z
    rw [hn p hp] at e; cases e
  have h01 : Same E0 (subs E1 cs) := fun a u e => by rw [subs_ne (nk e)]; exact h0 a u e
  have nl : ∀ p ∈ L0, p.1 ∉ cs.map (·.1) := fun p hp z => by
    obtain ⟨r, hr, e⟩ := List.mem_map.mp z
    have := hx r hr
    rw [e, h3 p hp] at this; cases this
  refine ⟨E1, hx, fun g hg => h2 g (List.mem_append.mpr (.inr hg)), ⟨subs E1 cs, fun a u e => ?_, fun g hg => ?_, fun p hp => ?_⟩, fun p hp => ?_, s.nd⟩
  · obtain ⟨a1, a2⟩ := subs_some e
    rw [subs_ne a1]; exact h1 a u a2
  · rcases List.mem_append.mp hg with hg | hg
    · exact g.2 _ _ h01 (hF g hg)
    · rw [List.mem_singleton.mp hg]; exact Same.refl _
  · rw [subs_ne (nl p hp)]; exact h3 p hp
  · rw [subs_ne (nl p hp)]; exact s.cell p hp
/-- and back -/
theorem out_J (nd : (cs.map (·.1)).Nodup) {G0 X : List MP} {L0 : List (Addr × HO)} {E1 : Hp} (hx : ∀ p ∈ cs, E1 p.1 = some (ExO p.1 p.2)) (hX : ∀ g ∈ X, g.1 E1) (n2 : ∀ p ∈ cs, H2 p.1 = none) (s : S (G0 ++ [allP (subs E1 cs)]) L0 H2) :
    ∃ E2 : Hp, (∀ g ∈ G0, g.1 E2) ∧ (∀ p ∈ cs, E2 p.1 = none) ∧ (∀ a u, E2 a = some u → a ∉ cs.map (·.1)) ∧ S (allP E2 :: celsF cs ++ X) L0 (adds H2 cs) ∧ ∀ (a : Addr) (u : HO), E2 a = some u → S (cel a u :: (allP E2 :: celsF cs ++ X)) L0 (adds H2 cs) := by
  obtain ⟨E2, h1, h2, h3⟩ := s.ex
  have m2 : ∀ p ∈ cs, E2 p.1 = none := fun p hp => by
    cases e : E2 p.1 with
    | none => rfl
    | some u =>
      have := h1 _ _ e
      rw [n2 p hp] at this; cases this
  have nk : ∀ {a : Addr} {u : HO}, E2 a = some u → a ∉ cs.map (·.1) := fun {a u} e z => by
    obtain ⟨p, hp, rfl⟩ := List.mem_map.mp z
    rw [m2 p hp] at e; cases e
  have nl : ∀ p ∈ L0, p.1 ∉ cs.map (·.1) := fun p hp z => by
    obtain ⟨r, hr, e⟩ := List.mem_map.mp z
    have := n2 r hr
    rw [e, s.cell p hp] at this; cases this
  have se : Same (subs E1 cs) E2 := h2 (allP (subs E1 cs)) (List.mem_append.mpr (.inr (List.mem_singleton.mpr rfl)))
  have sE : Same E1 (adds E2 cs) := fun a u e => by
    by_cases z : a ∈ cs.map (·.1)
    · obtain ⟨p, hp, rfl, e2⟩ := adds_at (H := E2) z
      rw [e2]
      have := hx p hp
      rw [e] at this
      exact this.symm
    · rw [adds_ne z]
      exact se a u (by rw [subs_ne z]; exact e)
  have sA : Same (adds E2 cs) (adds H2 cs) := fun a u e => by
    by_cases z : a ∈ cs.map (·.1)
    · obtain ⟨p, hp, rfl⟩ := List.mem_map.mp z
      rw [adds_in nd p hp] at e ⊢
      exact e
    · rw [adds_ne z] at e ⊢
      exact h1 a u e
  have key : ∀ F0 : List MP, (∀ g ∈ F0, g.1 (adds E2 cs)) → S F0 L0 (adds H2 cs) := fun F0 hF0 => ⟨⟨adds E2 cs, sA, hF0, fun p hp => by rw [adds_ne (nl p hp)]; exact h3 p hp⟩, fun p hp => by rw [adds_ne (nl p hp)]; exact s.cell p hp, s.nd⟩
  have base : ∀ g ∈ (allP E2 :: celsF cs ++ X), g.1 (adds E2 cs) := fun g hg => by
    rcases List.mem_append.mp hg with hg | hg
    · rcases List.mem_cons.mp hg with rfl | hg
      · exact same_adds m2
      · obtain ⟨p, hp, rfl⟩ := List.mem_map.mp hg
        exact adds_in nd p hp
    · exact g.2 _ _ sE (hX g hg)
  refine ⟨E2, fun g hg => h2 g (List.mem_append.mpr (.inl hg)), m2, fun a u e => nk e, key _ base, fun a u e => key _ fun g hg => ?_⟩
  rcases List.mem_cons.mp hg with rfl | hg
  · show adds E2 cs a = some u
    rw [adds_ne (nk e)]; exact e
  · exact base g hg
variable {Z : Type} {Fz : Z → List MP} {Lz : Z → List (Addr × HO)} {z : Z} {X : List MP} {Y : List (Addr × HO)}
/-- what the body's walk must end in -/
def ErEB (Fz : Z → List MP) (Lz : Z → List (Addr × HO)) (X : List MP) (Y : List (Addr × HO)) (C : Addr) (gs : Option (List (Str × V))) (E : XK) : Prop := match gs with
  | none => ∀ z H', S (Fz z ++ X) (Lz z ++ Y) H' → E (.ref C) none H'
  | some g => ∀ z d H', S (cel d (.xd g) :: (Fz z ++ X)) (Lz z ++ Y) H' → E (.ref C) (some d) H'
/-- the closure at f raises what reads as d, and G stays -/
def RaisesG (P : Program) (w : World) (K : PySem.W.Frag) (mg : Str → Option Value) (base : Heap) (k : Nat) (G : FL) (f : Addr) (d : PyData) : Prop := ∃ o sp, CloOk P w K mg base (L2.CX P w) k f o 0 sp ∧
  ∀ F L X Y H Q, G F L → S (F ++ X) (L ++ Y) H → H f = some (ExO f o) ∧ ((∀ F' L' v H', G F' L' → S (dtP K v d :: (F' ++ X)) (L' ++ Y) H' → Q v H') → ErOutJ K sp H Q)
theorem core_J (nd : (cs.map (·.1)).Nodup) {E0 : Hp} (hF : ∀ f ∈ Fz z, f.1 E0) (hn : ∀ p ∈ cs, E0 p.1 = none) (s : S (allP E0 :: celsF cs ++ X) (Lz z ++ Y) H)
    (htb : ∀ (X0 : List MP) (H0 : Hp) (Q' : VK) (E' : XK), S (Fz z ++ X0) (Lz z ++ Y) H0 → ErEB Fz Lz X0 Y C gs E' → tb E' (ws.map some) H0 Q')
    (hE : ErEJ (fun F L => ∃ F' L', GZ cs Fz Lz F' L' ∧ F = F' ++ X ∧ L = L' ++ Y) C gs E) :
    tb (fun cls d H2 => (∀ p ∈ cs, H2 p.1 = none) → E cls d (adds H2 cs)) (ws.map some) (subs H cs) (fun v H2 => (∀ p ∈ cs, H2 p.1 = none) → Q0 v (adds H2 cs)) := by
  obtain ⟨E1, hx, hX, s0⟩ := in_J hF hn s
  refine htb _ _ _ _ s0 ?_
  cases gs with
  | none =>
    intro z2 H2 s2 n2
    obtain ⟨E2, a1, a2, _, a3, _⟩ := out_J nd hx hX n2 s2
    exact hE _ _ _ ⟨_, _, ⟨z2, E2, rfl, rfl, a1, a2⟩, rfl, rfl⟩ a3
  | some g =>
    intro z2 d2 H2 s2 n2
    obtain ⟨E2, a1, a2, _, _, a4⟩ := out_J (G0 := cel d2 (.xd g) :: Fz z2) nd hx hX n2 s2
    exact hE _ _ d2 _ ⟨_, _, ⟨z2, E2, rfl, rfl, fun f hf => a1 f (List.mem_cons_of_mem _ hf), a2⟩, rfl, rfl⟩ (a4 _ _ (a1 _ List.mem_cons_self))
variable {scope : Scope} {params : Arguments} {body : Expr} {cells : List (Str × Addr)} {pm ctv doc : Value}
/-- a lambda without parameters that raises -/
theorem raisesJ {q2 : Str} (hq : q = q2) (ho : lamO q params body scope cells c pm ctv = o) (mf : ∀ z : Z, cel f (ExO f o) ∈ Fz z) (mc : ∀ z : Z, cel c (CodeO c q2) ∈ Fz z) (nd : (cs.map (·.1)).Nodup) (k : ErK K C gs d) (ns : List Str) (ws : List V) (lw : ws.length = ns.length)
    (N : LamN [] ns scope) (hfree : ∀ y ∈ ns, ∃ c, cells.lookup y = some c) (inj : ∀ x y c, cells.lookup x = some c → cells.lookup y = some c → x = y)
    (hbind : ∀ us : List Value, us.length = ([] : List Str).length → bindArgs (PySem.W.kla_fn "<lambda>" q params body scope (cloFrom cells scope.names []) pm (.ref c) ctv) ⟨us, []⟩ = pure (([] : List Str).zip us))
    (hcap : ∀ (i : Nat) y, ns[i]? = some y → ∃ p ∈ cs, ∃ w u, (cloFrom cells scope.names []).lookup y = some p.1 ∧ ws[i]? = some w ∧ RelV w u ∧ p.2.data = .cell (some u))
    (hbody : ∀ (A : Around) (outer : List Env) (s : Shared) (H : Hp) (E : XK), Room kk (A.deeper (PySem.W.envX q scope s.heap.objs.size f (.ref c) (cloFrom cells scope.names []))) → PE (lamCx (L2.CX P w) P w K mg base ([] ++ ns) q scope f c (cloFrom cells scope.names []) A outer s H E) body (tb E))
    (htb : ∀ (z : Z) (X0 : List MP) (Y : List (Addr × HO)) (H0 : Hp) (Q' : VK) (E' : XK), S (Fz z ++ X0) (Lz z ++ Y) H0 → ErEB Fz Lz X0 Y C gs E' → tb E' (ws.map some) H0 Q') : RaisesG P w K mg base (kk + 1) (GZ cs Fz Lz) f d := by
  subst ho
  subst hq
  refine ⟨_, _, clo_at [] ns cxAdds1 rfl rfl N hfree inj hbind hbody, fun F L X Y H Q g s => ?_⟩
  obtain ⟨z, E0, rfl, rfl, h1, h2⟩ := g
  have sm : Same E0 H := s.phi (f := allP E0) List.mem_cons_self
  refine ⟨sm _ _ (h1 _ (mf z)), fun qq => er_outJ (G := fun F L => ∃ F' L', GZ cs Fz Lz F' L' ∧ F = F' ++ X ∧ L = L' ++ Y) k (fun Q' E' hE => ?_) fun F L v H' ⟨F', L', g', e1, e2⟩ s' => qq F' L' v H' g' (by rw [← e1, ← e2]; exact s')⟩
  have hc := h1 _ (mc z)
  refine ⟨rfl, ws, cs, sm _ _ hc, fun zz => ?_, fun p hp => s.phi (f := cel p.1 (ExO p.1 p.2)) (List.mem_append.mpr (.inl (List.mem_cons_of_mem _ (mem_celsF hp)))), lw, hcap, core_J nd h1 h2 s (fun X0 H0 Q' E' => htb z X0 Y H0 Q' E') hE⟩
  obtain ⟨p, hp, e⟩ := List.mem_map.mp zz
  have := h2 p hp
  rw [e] at this
  have hc : E0 c = some (CodeO c q) := hc
  rw [hc] at this; cases this
/-- a lambda with one default that raises -/
theorem raisesJD {q2 : Str} (a : Str) (hq : q = q2) (ho : lamD q params body scope cells dt doc c pm ctv = o) (mf : ∀ z : Z, cel f (ExO f o) ∈ Fz z) (mc : ∀ z : Z, cel c (CodeO c q2) ∈ Fz z) (md : ∀ z : Z, cel dt (.tup [.int n]) ∈ Fz z) (nd : (cs.map (·.1)).Nodup) (k : ErK K C gs d) (ns : List Str) (ws : List V) (lw : ws.length = ns.length)
    (N : LamN [a] ns scope) (hfree : ∀ y ∈ ns, ∃ c, cells.lookup y = some c) (inj : ∀ x y c, cells.lookup x = some c → cells.lookup y = some c → x = y)
    (hbind : ∀ v : Value, ∃ k, bindArgs (PySem.W.kdv_fn "<lambda>" q params (.expr body) scope (cloFrom cells scope.names []) (.ref dt) doc pm (.ref c) ctv) ⟨[], []⟩ = seqItems? (.ref dt) >>= k ∧ k (some #[v]) = pure [(a, v)])
    (hcap : ∀ (i : Nat) y, ns[i]? = some y → ∃ p ∈ cs, ∃ w u, (cloFrom cells scope.names []).lookup y = some p.1 ∧ ws[i]? = some w ∧ RelV w u ∧ p.2.data = .cell (some u))
    (hbody : ∀ (A : Around) (outer : List Env) (s : Shared) (H : Hp) (E : XK), Room kk (A.deeper (PySem.W.envX q scope s.heap.objs.size f (.ref c) (cloFrom cells scope.names []))) → PE (lamCx (L2.CX P w) P w K mg base ([a] ++ ns) q scope f c (cloFrom cells scope.names []) A outer s H E) body (tb E))
    (htb : ∀ (z : Z) (X0 : List MP) (Y : List (Addr × HO)) (H0 : Hp) (Q' : VK) (E' : XK), S (Fz z ++ X0) (Lz z ++ Y) H0 → ErEB Fz Lz X0 Y C gs E' → tb E' ((.int n :: ws).map some) H0 Q') : RaisesG P w K mg base (kk + 1) (GZ cs Fz Lz) f d := by
  subst ho
  subst hq
  refine ⟨_, _, cloD_at (n := n) (a := a) a ns cxAdds1 rfl N hfree inj hbind hbody, fun F L X Y H Q g s => ?_⟩
  obtain ⟨z, E0, rfl, rfl, h1, h2⟩ := g
  have sm : Same E0 H := s.phi (f := allP E0) List.mem_cons_self
  refine ⟨sm _ _ (h1 _ (mf z)), fun qq => er_outJ (G := fun F L => ∃ F' L', GZ cs Fz Lz F' L' ∧ F = F' ++ X ∧ L = L' ++ Y) k (fun Q' E' hE => ?_) fun F L v H' ⟨F', L', g', e1, e2⟩ s' => qq F' L' v H' g' (by rw [← e1, ← e2]; exact s')⟩
  have hc := h1 _ (mc z)
  refine ⟨rfl, sm _ _ (h1 _ (md z)), ws, cs, sm _ _ hc, fun zz => ?_, fun p hp => s.phi (f := cel p.1 (ExO p.1 p.2)) (List.mem_append.mpr (.inl (List.mem_cons_of_mem _ (mem_celsF hp)))), lw, hcap, core_J (ws := .int n :: ws) nd h1 h2 s (fun X0 H0 Q' E' => htb z X0 Y H0 Q' E') hE⟩
  obtain ⟨p, hp, e⟩ := List.mem_map.mp zz
  have := h2 p hp
  rw [e] at this
  have hc : E0 c = some (CodeO c q) := hc
  rw [hc] at this; cases this
/-- all closures of a list raise -/
def spAllJ (P : Program) (w : World) (K : PySem.W.Frag) (mg : Str → Option Value) (base : Heap) (k : Nat) : Sp := fun vs H Q _ => ∃ (G : FL) (F X : List MP) (L Y : List (Addr × HO)) (l : Addr) (e : V) (fs : List Addr) (d : PyData), vs = [.ref l, e] ∧ G F L ∧ S (F ++ X) (L ++ Y) H ∧ fs.length ≤ 100 ∧ liF K l (fs.map V.ref) ∈ X ∧ dtP K e d ∈ X ∧ SeqAt.shaped d = true ∧
  (∀ f ∈ fs, RaisesG P w K mg base k G f d) ∧ ∀ F' L' H', G F' L' → S (F' ++ X) (L' ++ Y) H' → Q (.bl true) H'
variable {σ : Sl} {caps : List (Nat × Addr)} {XE : XK}
/-- the maker's state seen with the cells -/
theorem up_J (nd : (cs.map (·.1)).Nodup) (n1 : ∀ p ∈ cs, H1 p.1 = none) {X0 : List MP} (hS : S (Fz z ++ X) (Lz z ++ Y) H1) (hX : ∀ g ∈ X0, Ent (Fz z ++ X) g) : ∃ E1 : Hp, (∀ g ∈ X, g.1 E1) ∧ (∀ p ∈ cs, E1 p.1 = none) ∧ GZ cs Fz Lz (allP E1 :: celsF cs) (Lz z) ∧ S (allP E1 :: celsF cs ++ (allP E1 :: X0)) (Lz z ++ Y) (adds H1 cs) := by
  obtain ⟨E1, h1, h2, h3⟩ := hS.ex
  have m2 : ∀ p ∈ cs, E1 p.1 = none := fun p hp => by
    cases e : E1 p.1 with
    | none => rfl
    | some u =>
      have := h1 _ _ e
      rw [n1 p hp] at this; cases this
  have nl : ∀ p ∈ Lz z ++ Y, p.1 ∉ cs.map (·.1) := fun p hp z => by
    obtain ⟨r, hr, e⟩ := List.mem_map.mp z
    have := n1 r hr
    rw [e, hS.cell p hp] at this; cases this
  refine ⟨E1, fun g hg => h2 g (List.mem_append.mpr (.inr hg)), m2, ⟨z, E1, rfl, rfl, fun g hg => h2 g (List.mem_append.mpr (.inl hg)), m2⟩, ⟨adds E1 cs, fun a u e => ?_, fun g hg => ?_, fun p hp => by rw [adds_ne (nl p hp)]; exact h3 p hp⟩, fun p hp => by rw [adds_ne (nl p hp)]; exact hS.cell p hp, hS.nd⟩
  · by_cases z : a ∈ cs.map (·.1)
    · obtain ⟨p, hp, rfl⟩ := List.mem_map.mp z
      rw [adds_in nd p hp] at e ⊢
      exact e
    · rw [adds_ne z] at e ⊢
      exact h1 a u e
  · rcases List.mem_append.mp hg with hg | hg
    · rcases List.mem_cons.mp hg with rfl | hg
      · exact same_adds m2
      · obtain ⟨p, hp, rfl⟩ := List.mem_map.mp hg
        exact adds_in nd p hp
    · rcases List.mem_cons.mp hg with rfl | hg
      · exact same_adds m2
      · exact g.2 _ _ (same_adds m2) (hX g hg E1 h2)
/-- and again without them -/
theorem down_J {F' X0 : List MP} {L' : List (Addr × HO)} {E1 : Hp} (hX : ∀ g ∈ X, g.1 E1) (m1 : ∀ p ∈ cs, E1 p.1 = none) (g : GZ cs Fz Lz F' L') (s : S (F' ++ (allP E1 :: X0)) (L' ++ Y) H) :
    (∀ p ∈ cs, H p.1 = some (ExO p.1 p.2)) ∧ ∃ z, S (Fz z ++ X) (Lz z ++ Y) (subs H cs) := by
  obtain ⟨z, E2, rfl, rfl, a1, a2⟩ := g
  refine ⟨fun p hp => s.phi (f := cel p.1 (ExO p.1 p.2)) (List.mem_append.mpr (.inl (List.mem_cons_of_mem _ (mem_celsF hp)))), z, ?_⟩
  obtain ⟨E3, hx, hX3, s0⟩ := in_J (G0 := Fz z) a1 a2 s
  have s1 : Same E1 (subs E3 cs) := fun a u e => by
    have h : Same E1 E3 := hX3 (allP E1) List.mem_cons_self
    rw [subs_ne]
    · exact h a u e
    · intro zz
      obtain ⟨p, hp, rfl⟩ := List.mem_map.mp zz
      rw [m1 p hp] at e; cases e
  obtain ⟨E4, b1, b2, b3⟩ := s0.ex
  refine ⟨⟨E4, b1, fun g hg => ?_, b3⟩, s0.cell, s0.nd⟩
  rcases List.mem_append.mp hg with hg | hg
  · exact b2 g (List.mem_append.mpr (.inl hg))
  · have : Same (subs E3 cs) E4 := b2 (allP (subs E3 cs)) (List.mem_append.mpr (.inr (List.mem_singleton.mpr rfl)))
    exact g.2 _ _ (s1.trans this) (hX g hg)
theorem down_Jd {F' X0 : List MP} {L' : List (Addr × HO)} {E1 : Hp} {v : V} (hX : ∀ g ∈ X, g.1 E1) (m1 : ∀ p ∈ cs, E1 p.1 = none) (g : GZ cs Fz Lz F' L') (nl : noLs d = true) (s : S (dtP K v d :: (F' ++ (allP E1 :: X0))) (L' ++ Y) H) :
    (∀ p ∈ cs, H p.1 = some (ExO p.1 p.2)) ∧ ∃ z, S (dtP K v d :: (Fz z ++ X)) (Lz z ++ Y) (subs H cs) := by
  obtain ⟨z, E2, rfl, rfl, a1, a2⟩ := g
  refine ⟨fun p hp => s.phi (f := cel p.1 (ExO p.1 p.2)) (List.mem_cons_of_mem _ (List.mem_append.mpr (.inl (List.mem_cons_of_mem _ (mem_celsF hp))))), z, ?_⟩
  have s9 : S (allP E2 :: celsF cs ++ (dtP K v d :: (allP E1 :: X0))) (Lz z ++ Y) H := s.mono (fun g hg => by
    rcases List.mem_append.mp hg with hg | hg
    · exact List.mem_cons_of_mem _ (List.mem_append.mpr (.inl hg))
    · rcases List.mem_cons.mp hg with rfl | hg
      · exact List.mem_cons_self
      · exact List.mem_cons_of_mem _ (List.mem_append.mpr (.inr hg))) (List.Sublist.refl _)
  obtain ⟨E3, hx, hX3, s0⟩ := in_J (G0 := Fz z) a1 a2 s9
  have s1 : Same E1 (subs E3 cs) := fun a u e => by
    have h : Same E1 E3 := hX3 (allP E1) (List.mem_cons_of_mem _ List.mem_cons_self)
    rw [subs_ne]
    · exact h a u e
    · intro zz
      obtain ⟨p, hp, rfl⟩ := List.mem_map.mp zz
      rw [m1 p hp] at e; cases e
  have hd : Dp K (subs E3 cs) v d := dp_subs hx (hX3 (dtP K v d) List.mem_cons_self) nl
  obtain ⟨E4, b1, b2, b3⟩ := s0.ex
  have s4 : Same (subs E3 cs) E4 := b2 (allP (subs E3 cs)) (List.mem_append.mpr (.inr (List.mem_singleton.mpr rfl)))
  refine ⟨⟨E4, b1, fun g hg => ?_, b3⟩, s0.cell, s0.nd⟩
  rcases List.mem_cons.mp hg with rfl | hg
  · exact dpM s4 hd
  rcases List.mem_append.mp hg with hg | hg
  · exact b2 g (List.mem_append.mpr (.inl hg))
  · exact g.2 _ _ (s1.trans s4) (hX g hg)
theorem k_errJ (hS : S (Fz z ++ X) (Lz z ++ Y) H1) (hσ : ∀ p ∈ caps, ∃ v, σ[p.1]? = some (some v)) (nd : (caps.map (·.2)).Nodup) (nl : noLs d = true)
    (R : ∀ cs, CapsAt σ caps cs → (∀ p ∈ cs, H1 p.1 = none) → (cs.map (·.1)).Nodup → RaisesG P w K mg base k (GZ cs Fz Lz) f d) (q : ∀ z v H', S (dtP K v d :: (Fz z ++ X)) (Lz z ++ Y) H' → Q v H') : kCallC caps (spErJ P w K mg base k) σ [.ref f] H1 Q := by
  refine ⟨hσ, fun cs hcs hn => ?_⟩
  have nd2 : (cs.map (·.1)).Nodup := by rw [hcs.keys]; exact nd
  obtain ⟨o, sp, C, hR⟩ := R cs hcs hn nd2
  obtain ⟨E1, hX, m1, g, s⟩ := up_J (X0 := []) nd2 hn hS (fun _ h => nomatch h)
  obtain ⟨hf, hR⟩ := hR _ _ _ _ _ (fun v H2 => (∀ p ∈ cs, H2 p.1 = some (ExO p.1 p.2)) ∧ Q v (subs H2 cs)) g s
  refine ⟨f, o, sp, rfl, hf, C, hR fun F' L' v H' g' s' => ?_⟩
  obtain ⟨a, z', b⟩ := down_Jd hX m1 g' nl s'
  exact ⟨a, q z' v _ b⟩
theorem k_allJ (hS : S (Fz z ++ X) (Lz z ++ Y) H1) (hσ : ∀ p ∈ caps, ∃ v, σ[p.1]? = some (some v)) (nd : (caps.map (·.2)).Nodup) (hl : Ent (Fz z ++ X) (liF K l (fs.map V.ref))) (hz : fs.length ≤ 100) (he : Ent (Fz z ++ X) (dtP K e d)) (sh : SeqAt.shaped d = true)
    (R : ∀ cs, CapsAt σ caps cs → (∀ p ∈ cs, H1 p.1 = none) → (cs.map (·.1)).Nodup → ∀ f ∈ fs, RaisesG P w K mg base k (GZ cs Fz Lz) f d) (q : ∀ z H', S (Fz z ++ X) (Lz z ++ Y) H' → Q (.bl true) H') : kCallC caps (spAllJ P w K mg base k) σ [.ref l, e] H1 Q := by
  refine ⟨hσ, fun cs hcs hn => ?_⟩
  have nd2 : (cs.map (·.1)).Nodup := by rw [hcs.keys]; exact nd
  obtain ⟨E1, hX, m1, g, s⟩ := up_J (X0 := [liF K l (fs.map V.ref), dtP K e d]) nd2 hn hS (fun g h => by
    rcases List.mem_cons.mp h with rfl | h
    · exact hl
    · rw [List.mem_singleton.mp h]; exact he)
  refine ⟨GZ cs Fz Lz, _, _, _, _, l, e, fs, d, rfl, g, s, hz, by simp, by simp, sh, R cs hcs hn nd2, fun F' L' H' g' s' => ?_⟩
  obtain ⟨a, z', b⟩ := down_J hX m1 g' s'
  exact ⟨a, q z' _ b⟩
end
end TW
namespace TW
open PySem PySem.Spec PyProof.Rows L2
def top (i : Nat) : Stmt := PySem.Challenge.pw_ticketwrap_k29_repeated_calls.main.body.getD i (.Pass ⟨0, 0, 0, 0⟩)
abbrev s_is_int_in : Stmt := top 17
abbrev s_greatest_common : Stmt := top 18
abbrev s_least_common : Stmt := top 19
abbrev s_check_tick : Stmt := top 20
abbrev s_check_entries : Stmt := top 21
abbrev s_Hall_init : Stmt := inClass (top 22) 0
abbrev s_Hall_text : Stmt := inClass (top 22) 2
abbrev s_Hall_period : Stmt := inClass (top 22) 3
abbrev s_Hall_growth : Stmt := inClass (top 22) 4
abbrev s_Hall_taken : Stmt := inClass (top 22) 5
abbrev s_Hall_called : Stmt := inClass (top 22) 6
abbrev s_Hall_events : Stmt := inClass (top 22) 8
abbrev s_open_range : Stmt := top 25
abbrev s_open_tickets : Stmt := top 26
abbrev s_count_open : Stmt := top 27
abbrev s_most_open : Stmt := top 28
abbrev s_first_above : Stmt := top 29
abbrev s_first_clash : Stmt := top 30
abbrev s_check_digits : Stmt := top 31
abbrev s_numbers_between : Stmt := top 32
abbrev s_holders : Stmt := top 33
abbrev s_mistaken : Stmt := top 34
abbrev s_tick_of_taking : Stmt := top 36
abbrev s_tick_of_calling : Stmt := top 37
abbrev s_find_call : Stmt := top 38
abbrev s_ticket_times : Stmt := top 39
abbrev s_shown : Stmt := top 40
abbrev s_display : Stmt := top 41
abbrev s_longest_wait : Stmt := top 42
abbrev s_distinct_ticks : Stmt := top 45
abbrev s_Watcher_init : Stmt := inClass (top 46) 0
abbrev s_Watcher_see : Stmt := inClass (top 46) 1
abbrev s_Watcher_candidates : Stmt := inClass (top 46) 3
abbrev s_Watcher_history : Stmt := inClass (top 46) 4
abbrev s_Watcher_next_displays : Stmt := inClass (top 46) 5
abbrev s_Bench_init : Stmt := inClass (top 49) 0
abbrev s_Bench_change : Stmt := inClass (top 49) 2
abbrev s_Bench_set_modulus : Stmt := inClass (top 49) 3
abbrev s_Bench_text : Stmt := inClass (top 49) 9
abbrev s_Bench_operations : Stmt := inClass (top 49) 10
abbrev s_encode : Stmt := top 53
abbrev s_law_random : Stmt := top 55
abbrev s_law_hall : Stmt := top 56
abbrev s_law_below : Stmt := top 57
abbrev s_law_pattern : Stmt := top 58
abbrev s_law_small : Stmt := top 59
abbrev s_law_results : Stmt := top 60
abbrev s_law_equal : Stmt := top 61
abbrev s_law : Stmt := top 62
structure Hd (K : PySem.W.Frag) (mg : Str → Option Value) : Prop where
  f_is_int_in : ∃ fd, FunD K "is_int_in" "is_int_in" (defArgs s_is_int_in) (defBody s_is_int_in) (defScope s_is_int_in) [] [] (He.ga K "is_int_in") fd
  g_is_int_in : mg "is_int_in" = some (.ref (He.ga K "is_int_in"))
  f_greatest_common : ∃ fd, FunD K "greatest_common" "greatest_common" (defArgs s_greatest_common) (defBody s_greatest_common) (defScope s_greatest_common) [] [] (He.ga K "greatest_common") fd
  g_greatest_common : mg "greatest_common" = some (.ref (He.ga K "greatest_common"))
  f_least_common : ∃ fd, FunD K "least_common" "least_common" (defArgs s_least_common) (defBody s_least_common) (defScope s_least_common) [] [] (He.ga K "least_common") fd
  g_least_common : mg "least_common" = some (.ref (He.ga K "least_common"))
  f_check_tick : ∃ fd, FunD K "check_tick" "check_tick" (defArgs s_check_tick) (defBody s_check_tick) (defScope s_check_tick) [] [] (He.ga K "check_tick") fd
  g_check_tick : mg "check_tick" = some (.ref (He.ga K "check_tick"))
  f_check_entries : ∃ fd, FunD K "check_entries" "check_entries" (defArgs s_check_entries) (defBody s_check_entries) (defScope s_check_entries) [] [] (He.ga K "check_entries") fd
  g_check_entries : mg "check_entries" = some (.ref (He.ga K "check_entries"))
  f_Hall_init : ∃ fd, FunD K "__init__" "Hall.__init__" (defArgs s_Hall_init) (defBody s_Hall_init) (defScope s_Hall_init) [] [] (He.ma K (He.ga K "Hall") "__init__") fd
  f_Hall_text : ∃ fd, FunD K "text" "Hall.text" (defArgs s_Hall_text) (defBody s_Hall_text) (defScope s_Hall_text) [] [] (prA K (He.ga K "Hall") "text").2 fd
  p_Hall_text : PropOf K (He.ga K "Hall") "text" (prA K (He.ga K "Hall") "text").1 (prA K (He.ga K "Hall") "text").2
  f_Hall_period : ∃ fd, FunD K "period" "Hall.period" (defArgs s_Hall_period) (defBody s_Hall_period) (defScope s_Hall_period) [] [] (prA K (He.ga K "Hall") "period").2 fd
  p_Hall_period : PropOf K (He.ga K "Hall") "period" (prA K (He.ga K "Hall") "period").1 (prA K (He.ga K "Hall") "period").2
  f_Hall_growth : ∃ fd, FunD K "growth" "Hall.growth" (defArgs s_Hall_growth) (defBody s_Hall_growth) (defScope s_Hall_growth) [] [] (prA K (He.ga K "Hall") "growth").2 fd
  p_Hall_growth : PropOf K (He.ga K "Hall") "growth" (prA K (He.ga K "Hall") "growth").1 (prA K (He.ga K "Hall") "growth").2
  f_Hall_taken : ∃ fd, FunD K "taken" "Hall.taken" (defArgs s_Hall_taken) (defBody s_Hall_taken) (defScope s_Hall_taken) [] [] (He.ma K (He.ga K "Hall") "taken") fd
  m_Hall_taken : Meth K (He.ga K "Hall") "taken" (He.ma K (He.ga K "Hall") "taken")
  f_Hall_called : ∃ fd, FunD K "called" "Hall.called" (defArgs s_Hall_called) (defBody s_Hall_called) (defScope s_Hall_called) [] [] (He.ma K (He.ga K "Hall") "called") fd
  m_Hall_called : Meth K (He.ga K "Hall") "called" (He.ma K (He.ga K "Hall") "called")
  f_Hall_events : ∃ fd, FunD K "events" "Hall.events" (defArgs s_Hall_events) (defBody s_Hall_events) (defScope s_Hall_events) [] [] (He.ma K (He.ga K "Hall") "events") fd
  m_Hall_events : Meth K (He.ga K "Hall") "events" (He.ma K (He.ga K "Hall") "events")
  f_open_range : ∃ fd, FunD K "open_range" "open_range" (defArgs s_open_range) (defBody s_open_range) (defScope s_open_range) [] [] (He.ga K "open_range") fd
  g_open_range : mg "open_range" = some (.ref (He.ga K "open_range"))
  f_open_tickets : ∃ fd, FunD K "open_tickets" "open_tickets" (defArgs s_open_tickets) (defBody s_open_tickets) (defScope s_open_tickets) [] [] (He.ga K "open_tickets") fd
  g_open_tickets : mg "open_tickets" = some (.ref (He.ga K "open_tickets"))
  f_count_open : ∃ fd, FunD K "count_open" "count_open" (defArgs s_count_open) (defBody s_count_open) (defScope s_count_open) [] [] (He.ga K "count_open") fd
  g_count_open : mg "count_open" = some (.ref (He.ga K "count_open"))
  f_most_open : ∃ fd, FunD K "most_open" "most_open" (defArgs s_most_open) (defBody s_most_open) (defScope s_most_open) [] [] (He.ga K "most_open") fd
  g_most_open : mg "most_open" = some (.ref (He.ga K "most_open"))
  f_first_above : ∃ fd, FunD K "first_above" "first_above" (defArgs s_first_above) (defBody s_first_above) (defScope s_first_above) [] [] (He.ga K "first_above") fd
  g_first_above : mg "first_above" = some (.ref (He.ga K "first_above"))
  f_first_clash : ∃ fd, FunD K "first_clash" "first_clash" (defArgs s_first_clash) (defBody s_first_clash) (defScope s_first_clash) [] [] (He.ga K "first_clash") fd
  g_first_clash : mg "first_clash" = some (.ref (He.ga K "first_clash"))
  f_check_digits : ∃ fd, FunD K "check_digits" "check_digits" (defArgs s_check_digits) (defBody s_check_digits) (defScope s_check_digits) [] [] (He.ga K "check_digits") fd
  g_check_digits : mg "check_digits" = some (.ref (He.ga K "check_digits"))
  f_numbers_between : ∃ fd, FunD K "numbers_between" "numbers_between" (defArgs s_numbers_between) (defBody s_numbers_between) (defScope s_numbers_between) [] [] (He.ga K "numbers_between") fd
  g_numbers_between : mg "numbers_between" = some (.ref (He.ga K "numbers_between"))
  f_holders : ∃ fd, FunD K "holders" "holders" (defArgs s_holders) (defBody s_holders) (defScope s_holders) [] [] (He.ga K "holders") fd
  g_holders : mg "holders" = some (.ref (He.ga K "holders"))
  f_mistaken : ∃ fd, FunD K "mistaken" "mistaken" (defArgs s_mistaken) (defBody s_mistaken) (defScope s_mistaken) [] [] (He.ga K "mistaken") fd
  g_mistaken : mg "mistaken" = some (.ref (He.ga K "mistaken"))
  f_tick_of_taking : ∃ fd, FunD K "tick_of_taking" "tick_of_taking" (defArgs s_tick_of_taking) (defBody s_tick_of_taking) (defScope s_tick_of_taking) [] [] (He.ga K "tick_of_taking") fd
  g_tick_of_taking : mg "tick_of_taking" = some (.ref (He.ga K "tick_of_taking"))
  f_tick_of_calling : ∃ fd, FunD K "tick_of_calling" "tick_of_calling" (defArgs s_tick_of_calling) (defBody s_tick_of_calling) (defScope s_tick_of_calling) [] [] (He.ga K "tick_of_calling") fd
  g_tick_of_calling : mg "tick_of_calling" = some (.ref (He.ga K "tick_of_calling"))
  f_find_call : ∃ fd, FunD K "find_call" "find_call" (defArgs s_find_call) (defBody s_find_call) (defScope s_find_call) [] [] (He.ga K "find_call") fd
  g_find_call : mg "find_call" = some (.ref (He.ga K "find_call"))
  f_ticket_times : ∃ fd, FunD K "ticket_times" "ticket_times" (defArgs s_ticket_times) (defBody s_ticket_times) (defScope s_ticket_times) [] [] (He.ga K "ticket_times") fd
  g_ticket_times : mg "ticket_times" = some (.ref (He.ga K "ticket_times"))
  f_shown : ∃ fd, FunD K "shown" "shown" (defArgs s_shown) (defBody s_shown) (defScope s_shown) [] [] (He.ga K "shown") fd
  g_shown : mg "shown" = some (.ref (He.ga K "shown"))
  f_display : ∃ fd, FunD K "display" "display" (defArgs s_display) (defBody s_display) (defScope s_display) [] [] (He.ga K "display") fd
  g_display : mg "display" = some (.ref (He.ga K "display"))
  f_longest_wait : ∃ fd, FunD K "longest_wait" "longest_wait" (defArgs s_longest_wait) (defBody s_longest_wait) (defScope s_longest_wait) [] [] (He.ga K "longest_wait") fd
  g_longest_wait : mg "longest_wait" = some (.ref (He.ga K "longest_wait"))
  f_distinct_ticks : ∃ fd, FunD K "distinct_ticks" "distinct_ticks" (defArgs s_distinct_ticks) (defBody s_distinct_ticks) (defScope s_distinct_ticks) [] [] (He.ga K "distinct_ticks") fd
  g_distinct_ticks : mg "distinct_ticks" = some (.ref (He.ga K "distinct_ticks"))
  f_Watcher_init : ∃ fd, FunD K "__init__" "Watcher.__init__" (defArgs s_Watcher_init) (defBody s_Watcher_init) (defScope s_Watcher_init) [] [] (He.ma K (He.ga K "Watcher") "__init__") fd
  f_Watcher_see : ∃ fd, FunD K "see" "Watcher.see" (defArgs s_Watcher_see) (defBody s_Watcher_see) (defScope s_Watcher_see) [] [] (He.ma K (He.ga K "Watcher") "see") fd
  m_Watcher_see : Meth K (He.ga K "Watcher") "see" (He.ma K (He.ga K "Watcher") "see")
  f_Watcher_candidates : ∃ fd, FunD K "candidates" "Watcher.candidates" (defArgs s_Watcher_candidates) (defBody s_Watcher_candidates) (defScope s_Watcher_candidates) [] [] (prA K (He.ga K "Watcher") "candidates").2 fd
  p_Watcher_candidates : PropOf K (He.ga K "Watcher") "candidates" (prA K (He.ga K "Watcher") "candidates").1 (prA K (He.ga K "Watcher") "candidates").2
  f_Watcher_history : ∃ fd, FunD K "history" "Watcher.history" (defArgs s_Watcher_history) (defBody s_Watcher_history) (defScope s_Watcher_history) [] [] (prA K (He.ga K "Watcher") "history").2 fd
  p_Watcher_history : PropOf K (He.ga K "Watcher") "history" (prA K (He.ga K "Watcher") "history").1 (prA K (He.ga K "Watcher") "history").2
  f_Watcher_next_displays : ∃ fd, FunD K "next_displays" "Watcher.next_displays" (defArgs s_Watcher_next_displays) (defBody s_Watcher_next_displays) (defScope s_Watcher_next_displays) [] [] (prA K (He.ga K "Watcher") "next_displays").2 fd
  p_Watcher_next_displays : PropOf K (He.ga K "Watcher") "next_displays" (prA K (He.ga K "Watcher") "next_displays").1 (prA K (He.ga K "Watcher") "next_displays").2
  f_Bench_init : ∃ fd, FunD K "__init__" "Bench.__init__" (defArgs s_Bench_init) (defBody s_Bench_init) (defScope s_Bench_init) [] [] (He.ma K (He.ga K "Bench") "__init__") fd
  f_Bench_change : ∃ fd, FunD K "change" "Bench.change" (defArgs s_Bench_change) (defBody s_Bench_change) (defScope s_Bench_change) [] [] (He.ma K (He.ga K "Bench") "change") fd
  m_Bench_change : Meth K (He.ga K "Bench") "change" (He.ma K (He.ga K "Bench") "change")
  f_Bench_set_modulus : ∃ fd, FunD K "set_modulus" "Bench.set_modulus" (defArgs s_Bench_set_modulus) (defBody s_Bench_set_modulus) (defScope s_Bench_set_modulus) [] [] (He.ma K (He.ga K "Bench") "set_modulus") fd
  m_Bench_set_modulus : Meth K (He.ga K "Bench") "set_modulus" (He.ma K (He.ga K "Bench") "set_modulus")
  f_Bench_text : ∃ fd, FunD K "text" "Bench.text" (defArgs s_Bench_text) (defBody s_Bench_text) (defScope s_Bench_text) [] [] (prA K (He.ga K "Bench") "text").2 fd
  p_Bench_text : PropOf K (He.ga K "Bench") "text" (prA K (He.ga K "Bench") "text").1 (prA K (He.ga K "Bench") "text").2
  f_Bench_operations : ∃ fd, FunD K "operations" "Bench.operations" (defArgs s_Bench_operations) (defBody s_Bench_operations) (defScope s_Bench_operations) [] [] (prA K (He.ga K "Bench") "operations").2 fd
  p_Bench_operations : PropOf K (He.ga K "Bench") "operations" (prA K (He.ga K "Bench") "operations").1 (prA K (He.ga K "Bench") "operations").2
  f_encode : ∃ fd, FunD K "encode" "encode" (defArgs s_encode) (defBody s_encode) (defScope s_encode) [] [] (He.ga K "encode") fd
  g_encode : mg "encode" = some (.ref (He.ga K "encode"))
  f_law_random : ∃ fd, FunD K "_law_random" "_law_random" (defArgs s_law_random) (defBody s_law_random) (defScope s_law_random) [] [] (He.ga K "_law_random") fd
  g_law_random : mg "_law_random" = some (.ref (He.ga K "_law_random"))
  f_law_hall : ∃ fd, FunD K "_law_hall" "_law_hall" (defArgs s_law_hall) (defBody s_law_hall) (defScope s_law_hall) [] [] (He.ga K "_law_hall") fd
  g_law_hall : mg "_law_hall" = some (.ref (He.ga K "_law_hall"))
  f_law_below : ∃ fd, FunD K "_law_below" "_law_below" (defArgs s_law_below) (defBody s_law_below) (defScope s_law_below) [] [] (He.ga K "_law_below") fd
  g_law_below : mg "_law_below" = some (.ref (He.ga K "_law_below"))
  f_law_pattern : ∃ fd, FunD K "_law_pattern" "_law_pattern" (defArgs s_law_pattern) (defBody s_law_pattern) (defScope s_law_pattern) [] [] (He.ga K "_law_pattern") fd
  g_law_pattern : mg "_law_pattern" = some (.ref (He.ga K "_law_pattern"))
  f_law_small : ∃ fd, FunD K "_law_small" "_law_small" (defArgs s_law_small) (defBody s_law_small) (defScope s_law_small) [] [] (He.ga K "_law_small") fd
  g_law_small : mg "_law_small" = some (.ref (He.ga K "_law_small"))
  f_law_results : ∃ fd, FunD K "_law_results" "_law_results" (defArgs s_law_results) (defBody s_law_results) (defScope s_law_results) [] [] (He.ga K "_law_results") fd
  g_law_results : mg "_law_results" = some (.ref (He.ga K "_law_results"))
  f_law_equal : ∃ fd, FunD K "_law_equal" "_law_equal" (defArgs s_law_equal) (defBody s_law_equal) (defScope s_law_equal) [] [] (He.ga K "_law_equal") fd
  g_law_equal : mg "_law_equal" = some (.ref (He.ga K "_law_equal"))
  f_law : ∃ fd, FunD K "law" "law" (defArgs s_law) (defBody s_law) (defScope s_law) [] [] (He.ga K "law") fd
  g_law : mg "law" = some (.ref (He.ga K "law"))
  c_Bench : Cls K (He.ga K "Bench")
  k_Bench : Mk K (He.ga K "Bench") (He.ma K (He.ga K "Bench") "__init__")
  g_Bench : mg "Bench" = some (.ref (He.ga K "Bench"))
  c_Hall : Cls K (He.ga K "Hall")
  k_Hall : Mk K (He.ga K "Hall") (He.ma K (He.ga K "Hall") "__init__")
  g_Hall : mg "Hall" = some (.ref (He.ga K "Hall"))
  c_Watcher : Cls K (He.ga K "Watcher")
  k_Watcher : Mk K (He.ga K "Watcher") (He.ma K (He.ga K "Watcher") "__init__")
  g_Watcher : mg "Watcher" = some (.ref (He.ga K "Watcher"))
  n_modulus : NoAttr K (He.ga K "Hall") "modulus"
  n_takes : NoAttr K (He.ga K "Hall") "takes"
  n_calls : NoAttr K (He.ga K "Hall") "calls"
  n_lateness : NoAttr K (He.ga K "Hall") "lateness"
  n_length : NoAttr K (He.ga K "Hall") "length"
  n_taken_by : NoAttr K (He.ga K "Hall") "taken_by"
  n_called_by : NoAttr K (He.ga K "Hall") "called_by"
  n_Bench_now : NoAttr K (He.ga K "Bench") "now"
  n_Bench_past : NoAttr K (He.ga K "Bench") "past"
  n_Bench_undone : NoAttr K (He.ga K "Bench") "undone"
  n_Bench_saved : NoAttr K (He.ga K "Bench") "saved"
  n_Watcher_hall : NoAttr K (He.ga K "Watcher") "hall"
  n_Watcher_starts : NoAttr K (He.ga K "Watcher") "starts"
  n_Watcher_facts : NoAttr K (He.ga K "Watcher") "facts"
  b_len : mg "len" = none
  b_sum : mg "sum" = none
  b_max : mg "max" = none
  b_min : mg "min" = none
  b_abs : mg "abs" = none
  b_divmod : mg "divmod" = none
  b_any : mg "any" = none
  b_all : mg "all" = none
  b_isinstance : mg "isinstance" = none
  b_list : mg "list" = none
  b_tuple : mg "tuple" = none
  b_int : mg "int" = none
  b_str : mg "str" = none
  b_bool : mg "bool" = none
  b_range : mg "range" = none
  b_enumerate : mg "enumerate" = none
  b_sorted : mg "sorted" = none
  b_set : mg "set" = none
  b_zip : mg "zip" = none
  i_MIN_MODULUS : ∃ t, mg "MIN_MODULUS" = some (.int 2 t)
  i_MAX_MODULUS : ∃ t, mg "MAX_MODULUS" = some (.int 10000 t)
  i_MAX_ENTRIES : ∃ t, mg "MAX_ENTRIES" = some (.int 12 t)
  i_MAX_ENTRY : ∃ t, mg "MAX_ENTRY" = some (.int 9 t)
  i_MAX_LATENESS : ∃ t, mg "MAX_LATENESS" = some (.int 99 t)
  i_MAX_TICK : ∃ t, mg "MAX_TICK" = some (.int 1000000000000000000 t)
  g_WORDS : mg "WORDS" = some (.ref (He.ga K "WORDS"))
  t_WORDS : ∀ H : Hp, SqT K H (He.ga K "WORDS") [.str "modulus", .str "takes", .str "calls", .str "lateness"]
  i_MAX_TICKETS : ∃ t, mg "MAX_TICKETS" = some (.int 1000 t)
  i_MAX_TICKS : ∃ t, mg "MAX_TICKS" = some (.int 5000 t)
  s_MODULUS : ∃ t, mg "MODULUS" = some (.str "modulus" t)
  i_TAG : ∃ t, mg "TAG" = some (.int 84 t)
  i_BYTE : ∃ t, mg "BYTE" = some (.int 256 t)
  y_WORDS : TyT K (He.ga K "WORDS")
def lamL : List (PySem.W.Frag → Addr) := [fun K => He.ga K "first_clash"]
class Tb (K : PySem.W.Frag) (mg : Str → Option Value) (base : Heap) : Prop where
  all : ∀ at_ ∈ lamL, LamX.TabB base mg (codeAt K (at_ K)) (tabAt K (codeAt K (at_ K)))
theorem tb_first_clash {K : PySem.W.Frag} {mg : Str → Option Value} {base : Heap} [B : Tb K mg base] : LamX.TabB base mg (codeAt K (He.ga K "first_clash")) (tabF K "first_clash") := B.all _ (List.mem_of_getElem? (i := 0) rfl)
-- MACROS
local macro_rules | `(tactic| exists "tw mem") => `(tactic| ((repeat (first | with_reducible assumption | with_reducible exact List.mem_cons_self | with_reducible apply List.mem_cons_of_mem)); done))
local macro_rules | `(tactic| exists "tw put") => `(tactic| ((repeat (first | with_reducible exact Put.head | with_reducible exact Pull.head | with_reducible apply Put.tail | with_reducible apply Pull.tail)); done))
local macro_rules | `(tactic| exists "tw set") => `(tactic| ((repeat (first | exact SetAt.zero | apply SetAt.succ)); done))
local macro_rules | `(tactic| exists "tw wip") => `(tactic| ((repeat (apply Wip.cons)); (all_goals first | exact Wip.nil | (repeat (first | exact NonAt.zero | apply NonAt.succ)))))
local macro_rules | `(tactic| exists "tw sql") => `(tactic| first | with_reducible assumption | exact q_L1 (by with_reducible assumption) (by exists "tw mem") | exact q_L2 (by with_reducible assumption) (by exists "tw mem") | exact q_L3 (by with_reducible assumption) (by exists "tw mem"))
local macro_rules | `(tactic| exists "tw sqt") => `(tactic| first | with_reducible assumption | exact q_T2 (by with_reducible assumption) (by exists "tw mem") | exact q_T3 (by with_reducible assumption) (by exists "tw mem"))
local macro_rules | `(tactic| exists "tw cst") => `(tactic| first | exact (rfl : (0 : Int) = ((0 : Nat) : Int)) | exact (rfl : (1 : Int) = ((1 : Nat) : Int)) | exact (rfl : (2 : Int) = ((2 : Nat) : Int)) | exact (rfl : (3 : Int) = ((3 : Nat) : Int)) | exact (rfl : (4 : Int) = ((4 : Nat) : Int)) | exact (rfl : (5 : Int) = ((5 : Nat) : Int)))
local macro_rules | `(tactic| exists "tw nth") => `(tactic| ((repeat (first | exact NthL.zero | exact SetL.zero | exact EraL.zero | apply NthL.succ | apply SetL.succ | apply EraL.succ)); done))
local macro_rules | `(tactic| exists "tw siz") => `(tactic| first | exact Nat.le_of_ble_eq_true rfl | (refine sz_of ?_; (try simp only [List.length_append, List.length_map, List.length_cons, List.length_nil, List.length_range, List.length_replicate, List.length_dropLast]); omega) | (refine sz_lt ?_; (try simp only [List.length_append, List.length_map, List.length_cons, List.length_nil, List.length_range, List.length_replicate, List.length_dropLast]); omega))
local macro_rules | `(tactic| exists "tw prp") => `(tactic| first | with_reducible assumption | exact S.phi (by with_reducible assumption) (show prP _ _ _ ∈ _ by exists "tw mem"))
local macro_rules | `(tactic| exists "tw len") => `(tactic| ((try simp only [List.length_append, List.length_map, List.length_cons, List.length_nil, List.length_dropLast]); omega))
local macro_rules | `(tactic| exists "tw sub") => `(tactic| ((repeat (first | exact List.nil_sublist _ | exact List.Sublist.refl _ | apply List.Sublist.cons_cons | apply List.Sublist.cons)); done))
local macro_rules | `(tactic| exists "tw wk") => `(tactic| (refine S.sub (by assumption) ?_ ?_ <;> exists "tw sub"))
local macro_rules | `(tactic| exists "tw re") => `(tactic| ((refine S.re (by assumption) ?_ ?_); (next => (repeat (first | exact SubF.base (by exists "tw sub") | (refine SubF.cons (by exists "tw mem") ?_)))); (next => exists "tw sub")))
local macro_rules | `(tactic| exists "tw nox") => `(tactic| ((repeat (first | exact NoX.nil | with_reducible apply NoX.lst | with_reducible apply NoX.tbl | with_reducible apply NoX.ins)); done))
local macro_rules | `(tactic| exists "tw pa") => `(tactic| ((repeat (first | exact PA.nil | exact PA.of_refl _ | (refine PA.cons (by exists "tw put") ?_) | refine PA.tail' ?_)); done))
local macro_rules | `(tactic| exists "tw rp") => `(tactic| ((refine S.rp (by assumption) ?_ ?_); (next => (repeat (first | exact SubF.base (by exists "tw sub") | (refine SubF.cons (by exists "tw mem") ?_)))); (next => exists "tw pa")))
local macro_rules | `(tactic| exists "tw neN") => `(tactic| (intro hz; cases hz))
local macro_rules | `(tactic| exists "tw go1") => `(tactic| first
  | (with_reducible refine go_all ?_)
  | (with_reducible refine r_ifs ?_)
  | (with_reducible refine e_nx ?_)
  | (with_reducible refine e_rt ?_)
  | (with_reducible refine e_bk ?_)
  | (with_reducible refine e_ct ?_)
  | (with_reducible refine iteT ?_)
  | (with_reducible refine iteF ?_)
  | (with_reducible refine i_nt ?_)
  | (with_reducible refine i_nf ?_)
  | ((with_reducible apply r_aug); (next => exact rfl))
  | ((with_reducible apply x_kset); (next => exists "tw set"))
  | ((with_reducible apply r_set); (next => exists "tw set"))
  | ((with_reducible apply x_par); (next => exists "tw set"); (next => exists "tw set")))
local macro_rules | `(tactic| exists "tw go0") => `(tactic| first
  | (with_reducible refine go_all ?_)
  | (with_reducible refine e_nx ?_)
  | (with_reducible refine e_rt ?_)
  | (with_reducible refine e_bk ?_)
  | (with_reducible refine e_ct ?_)
  | (with_reducible refine iteT ?_)
  | (with_reducible refine iteF ?_)
  | (with_reducible refine i_nt ?_)
  | (with_reducible refine i_nf ?_)
  | ((with_reducible apply r_aug); (next => exact rfl))
  | ((with_reducible apply x_kset); (next => exists "tw set"))
  | ((with_reducible apply r_set); (next => exists "tw set"))
  | ((with_reducible apply x_par); (next => exists "tw set"); (next => exists "tw set")))
local macro_rules | `(tactic| exists "tw go2") => `(tactic| first
  | (with_reducible refine x_eqI ?_)
  | (with_reducible refine x_neI ?_)
  | ((with_reducible apply x_isF); (next => exists "tw neN"))
  | ((with_reducible apply x_isnF); (next => exists "tw neN"))
  | ((with_reducible apply x_mulI); (next => first | (refine cmul_l ?_ ?_ <;> omega) | (refine cmul_r ?_ ?_ <;> omega)))
  | ((with_reducible apply x_div); (next => refine cdivw ?_ ?_ <;> omega))
  | ((with_reducible apply x_mod); (next => omega))
  | ((with_reducible apply x_pow); (next => exact ⟨by decide, by decide, by decide⟩))
  | ((with_reducible apply x_lenL); (next => exists "tw sql"))
  | ((with_reducible apply x_lenT); (next => exists "tw sqt"))
  | ((with_reducible apply x_sumL); (next => exists "tw sql"))
  | ((with_reducible apply x_sumT); (next => exists "tw sqt"))
  | ((with_reducible apply y_ixL); (next => exists "tw sql"); (next => exists "tw cst"); (next => exists "tw nth"))
  | ((with_reducible apply y_ixT); (next => exists "tw sqt"); (next => exists "tw cst"); (next => exists "tw nth"))
  | ((with_reducible apply x_ixL); (next => exists "tw sql"); (next => exact rfl))
  | ((with_reducible apply x_ixT); (next => exists "tw sqt"); (next => exact rfl))
  | ((with_reducible apply x_divmod); (next => with_reducible assumption); (next => refine cdiv ?_ ?_ <;> omega); intro p H hS)
  | ((with_reducible apply x_newL); (next => with_reducible assumption); (next => exists "tw siz"); intro p H hS)
  | ((with_reducible apply x_newT); (next => with_reducible assumption); (next => exists "tw siz"); intro p H hS)
  | ((with_reducible apply x_listL); (next => with_reducible assumption); (next => exists "tw sql"); intro p H hS)
  | ((with_reducible apply x_listT); (next => with_reducible assumption); (next => exists "tw sqt"); intro p H hS)
  | ((with_reducible apply x_tupL); (next => with_reducible assumption); (next => exists "tw sql"); intro p H hS)
  | ((with_reducible apply x_tupT); (next => exists "tw sqt"))
  | ((with_reducible apply x_tyL); (next => exists "tw sql"))
  | ((with_reducible apply x_append); (next => with_reducible assumption); (next => exists "tw put"); (next => exists "tw siz"); intro H hS)
  | ((with_reducible apply y_setL); (next => with_reducible assumption); (next => exists "tw put"); (next => exists "tw cst"); (next => exists "tw nth"); intro H hS)
  | ((with_reducible apply y_popAt); (next => with_reducible assumption); (next => exists "tw put"); (next => exists "tw cst"); (next => exact Nat.le_of_ble_eq_true rfl); (next => exists "tw nth"); intro H hS)
  | ((with_reducible apply r_gtup); (next => exists "tw sqt"); (next => exact rfl))
  | ((with_reducible apply x_rng1); (next => omega); (next => omega))
  | ((with_reducible apply x_rng2); (next => refine ⟨?_, ?_, ?_, ?_⟩ <;> omega))
  | ((with_reducible apply x_il); (next => exists "tw sql"))
  | ((with_reducible apply x_it); (next => exists "tw sqt"))
  | ((with_reducible apply x_wip); (next => exists "tw wip"))
  | ((with_reducible apply x_kend); (next => with_reducible assumption); (next => exists "tw put"); (next => exists "tw siz"); intro H hS)
  | ((with_reducible apply x_make); (next => with_reducible assumption); intro p dp H hS)
  | ((with_reducible apply x_kst); (next => first | exists "tw sql" | exists "tw sqt")))
local macro_rules | `(tactic| exists "tw cut") => `(tactic| first | (exfalso; omega) | exact absurd True.intro (by assumption) | contradiction | skip)
local macro_rules | `(tactic| exists "tw go3") => `(tactic| ((first | with_reducible refine i_dec ?_ ?_ | with_reducible refine i_ndec ?_ ?_ | with_reducible refine i_nndec ?_ ?_) <;> (intro hc; (try simp only [List.length_cons, List.length_nil, List.length_map, List.length_append, Int.natCast_add, Int.natCast_one] at hc); exists "tw cut")))
local macro_rules | `(tactic| exists "tw go4") => `(tactic| fail)
local macro_rules | `(tactic| exists "g1") => `(tactic| first | exists "tw go1" | exists "tw go4" | exists "tw go2" | exists "tw go3" | fail)
local macro_rules | `(tactic| exists "gq") => `(tactic| repeat' (first | exists "tw go0" | exists "tw go4" | exists "tw go2" | exists "tw go3" | fail))
local macro_rules | `(tactic| exists "go") => `(tactic| repeat' (first | exists "tw go1" | exists "tw go4" | exists "tw go2" | exists "tw go3" | fail))
local macro_rules | `(tactic| exists "tw ent") => `(tactic| ((repeat (first | with_reducible assumption | exact Ent.mem (by exists "tw mem") | exact Ent.tup (by exists "tw mem") | exact Ent.plT (by exists "tw mem") | apply Ent.cons)); done))
local macro_rules | `(tactic| exists "tw sqt") => `(tactic| first | with_reducible assumption | exact q_T2 (by with_reducible assumption) (by exists "tw mem") | exact q_T3 (by with_reducible assumption) (by exists "tw mem") | exact q_T5 (by with_reducible assumption) (by exists "tw mem") | exact q_T4 (by with_reducible assumption) (by exists "tw ent"))
local macro_rules | `(tactic| exists "tw go4") => `(tactic| first
  | ((with_reducible apply x_lenLr); (next => exists "tw sql"))
  | ((with_reducible apply x_lenLI); (next => exists "tw sql"))
  | ((with_reducible apply x_lenTI); (next => exists "tw sqt"))
  | ((with_reducible apply iTI); (next => exists "tw sqt"))
  | ((with_reducible apply iTB); (next => exists "tw sqt"))
  | ((with_reducible apply iTS); (next => exists "tw sqt"))
  | ((with_reducible apply iTT); (next => exists "tw sqt"))
  | ((with_reducible apply iTL); (next => exists "tw sqt"))
  | ((with_reducible apply iLI); (next => exists "tw sql"))
  | ((with_reducible apply iLB); (next => exists "tw sql"))
  | ((with_reducible apply iLS); (next => exists "tw sql"))
  | ((with_reducible apply iLT); (next => exists "tw sql"))
  | ((with_reducible apply iLL); (next => exists "tw sql"))
  | ((with_reducible apply x_ixLm); (next => exists "tw sql"); (next => omega); (next => omega))
  | ((with_reducible apply x_ixLi); (next => exists "tw sql"); (next => omega); (next => omega))
  | ((with_reducible apply x_ixTi); (next => exists "tw sqt"); (next => omega); (next => omega))
  | ((with_reducible apply x_ixLl); (next => exists "tw sql"))
  | ((with_reducible apply x_ixLz); (next => exists "tw sql"))
  | ((with_reducible apply x_fldF); (next => with_reducible assumption); (next => exists "tw mem"); (next => with_reducible assumption); (next => with_reducible assumption); (next => first | exact rfs_c | exact rfs_p | exact hfs_m | exact hfs_t | exact hfs_c | exact hfs_l | exact hfs_n | exact hfs_tb | exact hfs_cb | exact rfl))
  | ((with_reducible apply x_fldL); (next => with_reducible assumption); (next => exists "tw mem"); (next => with_reducible assumption); (next => with_reducible assumption); (next => first | exact rfs_c | exact rfs_p | exact hfs_m | exact hfs_t | exact hfs_c | exact hfs_l | exact hfs_n | exact hfs_tb | exact hfs_cb | exact rfl))
  | ((with_reducible apply x_hm); (next => with_reducible assumption); (next => exists "tw mem"); (next => with_reducible assumption); (next => with_reducible assumption))
  | ((with_reducible apply x_hl); (next => with_reducible assumption); (next => exists "tw mem"); (next => with_reducible assumption); (next => with_reducible assumption))
  | ((with_reducible apply x_hn); (next => with_reducible assumption); (next => exists "tw mem"); (next => with_reducible assumption); (next => with_reducible assumption))
  | ((with_reducible apply x_ht); (next => with_reducible assumption); (next => exists "tw mem"); (next => with_reducible assumption); (next => with_reducible assumption); intro pt hS)
  | ((with_reducible apply x_hc); (next => with_reducible assumption); (next => exists "tw mem"); (next => with_reducible assumption); (next => with_reducible assumption); intro pt hS)
  | ((with_reducible apply x_methH); (next => with_reducible assumption); (next => exists "tw mem"); (next => (intros; rfl)))
  | ((with_reducible apply x_propH); (next => with_reducible assumption); (next => exists "tw mem"))
  | ((with_reducible apply x_sfld); (next => with_reducible assumption); (next => exists "tw put"); (next => with_reducible assumption); (next => with_reducible assumption); (next => exact Nat.le_of_ble_eq_true rfl); intro H hS)
  | ((with_reducible apply x_eqT0); (next => exists "tw sqt"); (next => exists "tw sqt"))
  | ((with_reducible apply x_neT0); (next => exists "tw sqt"); (next => exists "tw sqt"))
  | ((with_reducible apply x_eqTI); (next => exists "tw sqt"); (next => exists "tw sqt"))
  | ((with_reducible apply x_neTI); (next => exists "tw sqt"); (next => exists "tw sqt"))
  | ((with_reducible apply x_eqL0); (next => exists "tw sql"); (next => exists "tw sql"))
  | ((with_reducible apply x_neL0); (next => exists "tw sql"); (next => exists "tw sql"))
  | ((with_reducible apply x_eqLI); (next => exists "tw sql"); (next => exists "tw sql"))
  | ((with_reducible apply x_neLI); (next => exists "tw sql"); (next => exists "tw sql"))
  | ((with_reducible apply x_ent); (next => exists "tw sqt"))
  | ((with_reducible apply c_isInt); (next => with_reducible assumption); intro H hS)
  | ((with_reducible apply c_gcd); (next => with_reducible assumption); intro H hS)
  | ((with_reducible apply c_lcm); (next => with_reducible assumption); (next => omega); (next => omega); (next => omega); (next => omega); intro H hS)
  | ((with_reducible apply c_checkTick); (next => with_reducible assumption); (next => omega); (next => omega); intro H hS)
  | ((with_reducible apply c_checkEntries); (next => with_reducible assumption); (next => exists "tw ent"); (next => with_reducible assumption); (next => with_reducible assumption); (next => with_reducible assumption); intro H hS)
  | ((with_reducible apply c_period); (next => with_reducible assumption); (next => exists "tw mem"); intro H hS)
  | ((with_reducible apply c_growth); (next => with_reducible assumption); (next => exists "tw mem"); (next => with_reducible assumption); intro H hS)
  | ((with_reducible apply c_taken); (next => with_reducible assumption); (next => exists "tw mem"); (next => with_reducible assumption); (next => omega); intro H hS)
  | ((with_reducible apply c_called); (next => with_reducible assumption); (next => exists "tw mem"); (next => with_reducible assumption); intro H hS)
  | ((with_reducible apply c_waiting); (next => with_reducible assumption); (next => exists "tw mem"); (next => with_reducible assumption); (next => omega); (next => omega); intro H hS)
  | ((with_reducible apply x_lrg0); (next => with_reducible assumption); (next => omega); (next => omega); intro q H hS)
  | ((with_reducible apply x_lrg); (next => with_reducible assumption); (next => omega); (next => omega); (next => omega); (next => omega); (next => omega); intro q H hS)
  | ((with_reducible apply x_extend); (next => with_reducible assumption); (next => exists "tw put"); (next => exists "tw mem"); (next => exists "tw siz"); intro H hS)
  | ((with_reducible apply c_digits); (next => with_reducible assumption); (next => exists "tw mem"); (next => with_reducible assumption); (next => omega); (next => omega); intro H hS)
  | ((with_reducible apply c_spare); (next => with_reducible assumption); (next => exists "tw mem"); (next => with_reducible assumption); (next => omega); intro v hv H hS)
  | ((with_reducible apply c_firstM); (next => with_reducible assumption); (next => exists "tw mem"); (next => with_reducible assumption); intro v hv H hS)
  | ((with_reducible apply x_eqPr0); (next => exists "tw sql"); (next => exists "tw prp"); (next => exists "tw sql"))
  | ((with_reducible apply x_nePr0); (next => exists "tw sql"); (next => exists "tw prp"); (next => exists "tw sql"))
  | (with_reducible refine r_enl ?_)
  | ((with_reducible apply x_enl); (next => exists "tw sql"))
  | ((with_reducible apply c_dper); (next => with_reducible assumption); (next => exists "tw mem"); (next => with_reducible assumption); intro H hS)
  | ((with_reducible apply c_dis); (next => with_reducible assumption); (next => exists "tw mem"); (next => with_reducible assumption); intro H hS)
  | ((with_reducible apply c_shs); (next => with_reducible assumption); (next => exists "tw mem"); (next => with_reducible assumption); (next => omega); (next => omega); intro l H hS)
  | ((with_reducible apply x_neV); (next => exact shown_scal))
  | ((with_reducible apply x_eqV); (next => exact shown_scal))
  | ((with_reducible apply x_slT); (next => with_reducible assumption); (next => exists "tw sqt"); (next => exact rfl); (next => exact Nat.le_of_ble_eq_true rfl); intro r H hS)
  | ((with_reducible apply x_slShs); (next => with_reducible assumption); (next => exists "tw sql"); (next => omega); intro r H hS)
  | ((with_reducible apply x_slL); (next => with_reducible assumption); (next => exists "tw sql"); (next => exact rfl); intro r H hS)
  | ((with_reducible apply x_repT2); (next => with_reducible assumption); (next => exists "tw ent"); (next => exists "tw len"); (next => exists "tw len"); intro r H hS)
  | ((with_reducible apply x_slTl); (next => with_reducible assumption); (next => exists "tw ent"); (next => exists "tw len"); intro r H hS)
  | ((with_reducible apply x_catT); (next => with_reducible assumption); (next => exists "tw ent"); (next => exists "tw ent"); (next => exists "tw siz"); intro r H hS)
  | (with_reducible refine x_eqIs ?_)
  | (with_reducible refine x_neIs ?_)
  | (with_reducible refine x_eqBs ?_)
  | (with_reducible refine x_neBs ?_)
  | (with_reducible refine x_eqB ?_)
  | ((with_reducible apply x_neB1); (next => first | with_reducible assumption | omega))
  | ((with_reducible apply x_neB2); (next => first | with_reducible assumption | omega))
  | ((with_reducible apply x_neB3); (next => first | with_reducible assumption | omega))
  | ((with_reducible apply x_neB4); (next => first | with_reducible assumption | omega))
  | ((with_reducible apply x_powG); (next => with_reducible assumption))
  | ((with_reducible apply x_powG7); (next => with_reducible assumption))
  | (with_reducible refine x_pow1018 ?_)
  | (with_reducible refine x_pow1017 ?_)
  | ((with_reducible apply x_p0); (next => with_reducible assumption); (next => exists "tw mem"))
  | ((with_reducible apply x_p3); (next => with_reducible assumption); (next => exists "tw mem"))
  | ((with_reducible apply x_p1); (next => with_reducible assumption); (next => exists "tw mem"); intro pt hS)
  | ((with_reducible apply x_p2); (next => with_reducible assumption); (next => exists "tw mem"); intro pt hS)
  | ((with_reducible apply x_catL); (next => with_reducible assumption); (next => exists "tw mem"); (next => exists "tw mem"); (next => exists "tw siz"); intro l H hS)
  | ((with_reducible apply c_init); (next => with_reducible assumption); (next => with_reducible assumption); (next => exists "tw ent"); (next => exists "tw ent"); (next => exists "tw put"); intro H hS)
  | ((with_reducible apply c_random); (next => with_reducible assumption); (next => exists "tw mem"); (next => with_reducible assumption); (next => omega); (next => omega); intro l D H hD hS)
  | ((with_reducible apply c_below); (next => with_reducible assumption); (next => with_reducible assumption); (next => exists "tw put"); (next => omega); (next => omega); intro r D H h0 h1 hD hS)
  | ((with_reducible apply c_pattern); (next => with_reducible assumption); (next => with_reducible assumption); (next => exists "tw put"); (next => omega); (next => omega); intro p xs D H h0 h1 h2 hD hS)
  | ((with_reducible apply c_parts); (next => with_reducible assumption); (next => with_reducible assumption); (next => exists "tw put"); (next => omega); (next => omega); intro p h D H ok h1 h2 hD hS)
  | ((with_reducible apply c_small); (next => with_reducible assumption); (next => with_reducible assumption); (next => exists "tw put"); intro p h D H ok h1 h2 h3 h4 hD hS)
  | ((with_reducible apply c_tick); (next => with_reducible assumption); (next => with_reducible assumption); (next => exists "tw put"); intro t D H h0 h1 hD hS)
  | ((with_reducible apply c_hall); (next => with_reducible assumption); (next => exists "tw mem"); (next => with_reducible assumption); intro x H hS)
  | ((with_reducible apply c_length); (next => with_reducible assumption); (next => exists "tw mem"); (next => first | with_reducible assumption | exact HD.ok.w (by with_reducible assumption)); intro H p0 p1 hS)
  | ((with_reducible apply c_shown); (next => with_reducible assumption); (next => exists "tw mem"); (next => with_reducible assumption); intro H hS)
  | ((with_reducible apply c_display); (next => with_reducible assumption); (next => exists "tw mem"); (next => with_reducible assumption); (next => omega); (next => omega); intro H hS)
  | ((with_reducible apply c_range); (next => with_reducible assumption); (next => exists "tw mem"); (next => with_reducible assumption); (next => omega); intro p H hS)
  | ((with_reducible apply c_open); (next => with_reducible assumption); (next => exists "tw mem"); (next => with_reducible assumption); (next => omega); (next => omega); intro p H hS)
  | ((with_reducible apply c_count); (next => with_reducible assumption); (next => exists "tw mem"); (next => with_reducible assumption); (next => omega); intro H hS)
  | ((with_reducible apply c_opens); (next => with_reducible assumption); (next => exists "tw mem"); (next => first | with_reducible assumption | exact HD.ok.w (by with_reducible assumption)); (next => omega); (next => omega); intro p H hS)
  | ((with_reducible apply c_long1); (next => with_reducible assumption); (next => exists "tw mem"); (next => with_reducible assumption); (next => with_reducible assumption); intro H hS)
  | ((with_reducible apply c_long2); (next => with_reducible assumption); (next => exists "tw mem"); (next => with_reducible assumption); (next => with_reducible assumption); (next => with_reducible assumption); intro H hS)
  | ((with_reducible apply c_most1); (next => with_reducible assumption); (next => exists "tw mem"); (next => with_reducible assumption); (next => with_reducible assumption); intro H hS)
  | ((with_reducible apply c_mostL1); (next => with_reducible assumption); (next => exists "tw mem"); (next => with_reducible assumption); (next => with_reducible assumption); intro H hS)
  | ((with_reducible apply c_most2); (next => with_reducible assumption); (next => exists "tw mem"); (next => with_reducible assumption); (next => with_reducible assumption); (next => with_reducible assumption); intro H hS)
  | ((with_reducible apply c_most3); (next => with_reducible assumption); (next => exists "tw mem"); (next => with_reducible assumption); (next => with_reducible assumption); (next => with_reducible assumption); intro H hS)
  | ((with_reducible apply c_most4); (next => with_reducible assumption); (next => exists "tw mem"); (next => with_reducible assumption); (next => with_reducible assumption); (next => with_reducible assumption); intro H hS)
  | ((with_reducible apply c_mostL2); (next => with_reducible assumption); (next => exists "tw mem"); (next => with_reducible assumption); (next => with_reducible assumption); (next => with_reducible assumption); intro H hS)
  | ((with_reducible apply x_ixL); (next => exists "tw sql"); (next => with_reducible assumption))
  | ((with_reducible apply x_ixT); (next => exists "tw sqt"); (next => with_reducible assumption))
  | ((with_reducible apply x_inI); (next => exists "tw sql"))
  | ((with_reducible apply c_clashV); (next => with_reducible assumption); (next => exists "tw put"); (next => exists "tw mem"); (next => exists "tw mem"); (next => with_reducible assumption); intro v ps H hS)
  | ((with_reducible apply c_plan); (next => with_reducible assumption); (next => exists "tw mem"); (next => with_reducible assumption); (next => omega); (next => omega); intro v H hS)
  | ((with_reducible apply c_planP); (next => with_reducible assumption); (next => exists "tw mem"); (next => with_reducible assumption); (next => omega); (next => omega); intro v H hS)
  | ((with_reducible apply x_newF); (next => with_reducible assumption); (next => exists "tw siz"); intro p H hS)
  | ((with_reducible apply x_pl); (next => with_reducible assumption); (next => exists "tw mem"))
  | ((with_reducible apply x_catF); (next => with_reducible assumption); (next => exists "tw mem"); (next => exists "tw mem"); (next => exact List.cons_ne_nil _ _); (next => exists "tw siz"); intro r H hS)
  | ((with_reducible apply x_methL); (next => with_reducible assumption); (next => exists "tw mem"); (next => (intros; rfl)))
  | ((with_reducible apply x_propL); (next => with_reducible assumption); (next => exists "tw mem"))
  | ((with_reducible apply c_distinct); (next => with_reducible assumption); (next => exists "tw mem"); (next => with_reducible assumption); (next => with_reducible assumption); intro H hS)
  | ((with_reducible apply c_winit); (next => with_reducible assumption); (next => exists "tw mem"); (next => with_reducible assumption); (next => with_reducible assumption); (next => exists "tw put"); intro ls lf H hS)
  | ((with_reducible apply c_hist); (next => with_reducible assumption); (next => exists "tw mem"); (next => exists "tw mem"); intro l H hS)
  | ((with_reducible apply c_cand); (next => with_reducible assumption); (next => exists "tw mem"); (next => exists "tw mem"); intro l H hS)
  | ((with_reducible apply x_lenS); (next => (refine sz_of ?_; omega)))
  | ((with_reducible apply c_text); (next => with_reducible assumption); (next => exists "tw mem"); (next => with_reducible assumption); intro H hS)
  | (with_reducible refine x_niSign ?_)
  | ((with_reducible apply c_read); (next => with_reducible assumption); (next => omega); intro H hS)
  | ((with_reducible apply x_starT); (next => exists "tw sqt"))
  | ((with_reducible apply x_starL); (next => exists "tw sql"))
  | ((with_reducible apply x_fa1); (next => with_reducible assumption); (next => exists "tw put"); (next => with_reducible assumption); (next => with_reducible assumption); (next => first | exact rfs_c | exact rfs_p | exact hfs_m | exact hfs_t | exact hfs_c | exact hfs_l | exact hfs_n | exact hfs_tb | exact hfs_cb | exact rfl); (next => exact Nat.le_of_ble_eq_true rfl); intro H hS)
  | ((with_reducible apply c_encode); (next => with_reducible assumption); (next => exists "tw mem"); (next => with_reducible assumption); intro l H hS)
  | ((with_reducible apply c_parse); (next => with_reducible assumption); (next => with_reducible assumption); intro x H hS)
  | ((with_reducible apply c_decode); (next => with_reducible assumption); (next => with_reducible assumption); (next => (intro F2 L2 H2 hf hl hs2; exact q_L1 hs2 (hl.subset (by exists "tw mem")))); intro x H hS)
  | ((with_reducible apply x_dnK); (next => with_reducible assumption); intro p H hS)
  | ((with_reducible apply c_binit); (next => with_reducible assumption); (next => exists "tw put"); intro lp lu ds H hS)
  | ((with_reducible apply c_btext); (next => with_reducible assumption); (next => exists "tw mem"); (next => exists "tw mem"); (next => with_reducible assumption); intro H hS)
  | (with_reducible refine r_rurN ?_)
  | (with_reducible refine r_rurC ?_)
  | ((with_reducible apply x_noList); (next => with_reducible assumption); (next => exists "tw mem"))
  | ((with_reducible apply x_gixLi); (next => exists "tw sql"); (next => omega); (next => omega))
  | ((with_reducible apply y_setLi); (next => with_reducible assumption); (next => exists "tw put"); (next => omega); (next => omega); intro H hS)
  | ((with_reducible apply x_revL); (next => with_reducible assumption); (next => exists "tw sql"); intro r H hS)
  | ((with_reducible apply x_cntT); (next => exists "tw sqt"))
  | ((with_reducible apply c_at); (next => with_reducible assumption); (next => exists "tw mem"); (next => omega); (next => omega); (next => with_reducible assumption); (next => with_reducible assumption); intro H hS)
  | ((with_reducible apply c_counts); (next => with_reducible assumption); (next => exists "tw mem"); (next => first | with_reducible assumption | exact HD.ok.w (by with_reducible assumption)); (next => omega); (next => omega); intro q a b H hS))
-- END
section
variable {P : Program} {w : World} {K : PySem.W.Frag} {mg : Str → Option Value} {base : Heap} [Tb K mg base]

theorem sc_Bench_init : FnScope ["self", "hall"] ["self", "hall"] (defScope s_Bench_init) := ⟨rfl, rfl, rfl, by decide +kernel, rfl, by decide +kernel, by decide +kernel⟩
theorem D_Bench_init (T : Hd K mg) : Dk P w K mg base CX0 1 (bC K) "Bench" ["self", "hall"] (spBInit K) := by
  refine mk_Dk T.g_Bench T.k_Bench T.f_Bench_init (fun _ _ _ _ _ _ us hl => match us, hl with | [_, _], _ => rfl) fun fd F => ?_
  refine F.ok sc_Bench_init (fun vs H Q E h => ?_) (fun cdv A outer s H vs Q E hr h => ?_)
  · obtain ⟨_, _, _, _, _, _, rfl, _⟩ := h
    rfl
  · obtain ⟨F1, L0, L1, b, dx, x, rfl, hp, hS, k⟩ := h
    refine ⟨_, (PSs.nox (pss_cons (d_sfld K (pv 0) (pv 1)) (pss_cons (d_sfld K (pv 0) (pe_lst pa_nil)) (pss_cons (d_sfld K (pv 0) (pe_lst pa_nil)) (pss_one (d_sfld K (pv 0) pe_dnewK)))))), ?_⟩
    refine r_start (u := [some (.ref b), some (.ref x)]) rfl ?_
    have hcBench := T.c_Bench; have hn_Bench_now := T.n_Bench_now; have hn_Bench_past := T.n_Bench_past; have hn_Bench_undone := T.n_Bench_undone; have hn_Bench_saved := T.n_Bench_saved
    clear hr F T cdv A outer s
    have hS := hS.pull hp
    exists "go"
    rename_i lp _ _ _ _ lu _ _ _ _ ds _ _ H9 hS9
    have hS7 : S F1 ((ds, .dK []) :: (lu, .lst []) :: (lp, .lst []) :: bCell K b dx x lp lu ds :: L1) H9 := hS9
    exact k lp lu ds _ (hS7.pa (by exists "tw pa"))

theorem sc_Bench_operations : FnScope ["self", "entry"] ["self"] (defScope s_Bench_operations) := ⟨rfl, rfl, rfl, by decide +kernel, rfl, by decide +kernel, by decide +kernel⟩
theorem D_Bench_operations (T : Hd K mg) : Dpr P w K mg base CX0 1 (bC K) "operations" ["self"] (spBOps K) := by
  refine mk_Dp T.c_Bench T.p_Bench_operations T.f_Bench_operations (fun _ _ _ _ _ _ us hl => match us, hl with | [_], _ => rfl) fun fd F => ?_
  refine F.ok sc_Bench_operations (fun vs H Q E h => ?_) (fun cdv A outer s H vs Q E hr h => ?_)
  · obtain ⟨_, _, _, _, _, _, _, _, _, _, rfl, _⟩ := h
    rfl
  · obtain ⟨F1, L1, b, dx, x, lp, lu, ds, vp, ep, rfl, hl, he, hm, hm2, hS, k⟩ := h
    refine ⟨_, (PSs.nox (pss_one (ps_ret (pe_lc (own := [("entry", 1)]) rfl sc_Bench_operations.nd (d_ilist K (d_fld K (pv 0))) (blkOk_by (own := [("entry", 1)]) (by show blkC ["self", "entry"] (defScope s_Bench_operations) _ _ = true; decide +kernel)) (fun _ _ _ _ _ => (pg_name (i := 1) sc_Bench_operations.nd rfl (by first | exact Or.inl rfl | exact Or.inr rfl))) (fun _ _ _ _ _ => pts_nil) (fun _ _ _ _ _ => (d_ix K (pv 1) pe_int (fun _ _ => rfl))))))), ?_⟩
    refine r_start (u := [some (.ref b), none]) rfl ?_
    have hcH := T.c_Hall; have hn_modulus := T.n_modulus; have hn_takes := T.n_takes; have hn_calls := T.n_calls; have hn_lateness := T.n_lateness; have hn_length := T.n_length; have hn_taken_by := T.n_taken_by; have hn_called_by := T.n_called_by
    have hcBench := T.c_Bench; have hn_Bench_now := T.n_Bench_now; have hn_Bench_past := T.n_Bench_past; have hn_Bench_undone := T.n_Bench_undone; have hn_Bench_saved := T.n_Bench_saved
    clear hr F T cdv A outer s
    have el : vp.length = ep.length := (hS.phi he).len
    exists "go"
    refine k_lcL vp (by exists "tw wip") hS (fun l i H => S F1 ((l, .lst ((ep.take i).map fun e => V.str e.1)) :: L1) H) (fun l H hS => hS) (fun l i H _ hS => by exists "tw sql") ?_ ?_
    · clear hS
      rintro l i y H hy hS
      have il := (List.getElem?_eq_some_iff.mp hy).1
      obtain ⟨E, h1, h2⟩ := hS.ofE
      obtain ⟨q, a, b2, e, rfl, he2, ht⟩ := Ens.words (h1 _ he : Ens K E vp ep) hy
      replace hS := h2 (tuF K q [.str e.1, .ref a, .ref b2] :: F1) (fun f hf => by
        rcases List.mem_cons.mp hf with rfl | hf
        · exact ht
        · exact h1 f hf)
      clear h1 h2 ht
      exists "go"
      refine x_kend (acc := (ep.take i).map fun e => V.str e.1) hS (by exists "tw put") (by rw [sizeLine_eq, List.length_map, List.length_take]; omega) fun H hS => ?_
      rw [List.take_add_one, he2, Option.toList_some, List.map_append]
      exists "tw wk"
    · clear hS
      rintro l H hS
      rw [el, List.take_length] at hS
      exists "go"
      exact k _ _ (by exists "tw wk")
theorem sc_is_int_in : FnScope ["value", "low", "high"] ["value", "low", "high"] (defScope s_is_int_in) := ⟨rfl, rfl, rfl, by decide +kernel, rfl, by decide +kernel, by decide +kernel⟩
theorem D_is_int_in (T : Hd K mg) : Df P w K mg base CX0 1 "is_int_in" ["value", "low", "high"] (spIsInt K) := by
  refine mk_Df T.g_is_int_in T.f_is_int_in (fun _ _ _ _ _ _ us hl => match us, hl with | [_, _, _], _ => rfl) fun fd F => ?_
  refine F.ok sc_is_int_in (fun vs H Q E h => ?_) (fun cdv A outer s H vs Q E hr h => ?_)
  · obtain ⟨_, _, _, _, _, _, rfl, _⟩ := h
    rfl
  · obtain ⟨F1, L1, x, lo, hi, n, rfl, hn, ty, hS, k⟩ := h
    refine ⟨_, (PSs.nox (pss_one (ps_ret (pe_and (pe_callB (c_isi (K := K) rfl) rfl T.b_isinstance bt_isinstance (pa_cons (pv 0) (pa_cons (d_ty rfl T.b_int bt_int) pa_nil))) (pe_and (pe_not (pe_callB (c_isi (K := K) rfl) rfl T.b_isinstance bt_isinstance (pa_cons (pv 0) (pa_cons (d_ty rfl T.b_bool bt_bool) pa_nil)))) (pe_one (pe_chain o_le o_le (pv 1) (pv 0) (pv 2)))))))), ?_⟩
    refine r_start (u := [some x, some (.int lo), some (.int hi)]) rfl ?_
    clear hr F T cdv A outer s
    have k0 := k H hS
    simp only [kinds, List.mem_cons, List.mem_nil_iff, or_false] at hn
    rcases hn with rfl | rfl | rfl | rfl | rfl | rfl
    · exists "go"
      refine x_isi ty (b := false) rfl ?_
      exists "go"
      rw [isIn_no ty (by decide)] at k0
      exact k0
    · obtain ⟨b, rfl⟩ := ty_of_bool ty
      exists "go"
      exact k0
    · obtain ⟨i, rfl⟩ := ty_of_int ty
      have e : isIn (.int i) lo hi = decide (lo ≤ i ∧ i ≤ hi) := rfl
      rw [e] at k0
      exists "go"
      · by_cases h2 : i ≤ hi
        · rw [decide_eq_true h2]
          rw [decide_eq_true (show lo ≤ i ∧ i ≤ hi from ⟨by assumption, h2⟩)] at k0
          exact k0
        · rw [decide_eq_false h2]
          rw [decide_eq_false (show ¬ (lo ≤ i ∧ i ≤ hi) from fun z => h2 z.2)] at k0
          exact k0
      · rw [decide_eq_false (show ¬ (lo ≤ i ∧ i ≤ hi) from fun z => by omega)] at k0
        exact k0
    all_goals
      exists "go"
      refine x_isi ty (b := false) rfl ?_
      exists "go"
      rw [isIn_no ty (by decide)] at k0
      exact k0
theorem sc_check_entries : FnScope ["part", "entries", "index", "entry"] ["part", "entries"] (defScope s_check_entries) := ⟨rfl, rfl, rfl, by decide +kernel, rfl, by decide +kernel, by decide +kernel⟩
theorem D_check_entries (T : Hd K mg) : Df P w K mg base CX0 2 "check_entries" ["part", "entries"] (spCheckEntries K) := by
  refine mk_Df T.g_check_entries T.f_check_entries (fun _ _ _ _ _ _ us hl => match us, hl with | [_, _], _ => rfl) fun fd F => ?_
  refine F.ok sc_check_entries (fun vs H Q E h => ?_) (fun cdv A outer s H vs Q E hr h => ?_)
  · obtain ⟨_, _, _, _, _, rfl, _⟩ := h
    rfl
  · obtain ⟨F1, L1, x, p, xs, rfl, l0, l1, hx, he, hS, k⟩ := h
    refine ⟨_, (PSs.nox (pss_cons (ps_if (pt_not (pt_val (pe_callB (c_isi (K := K) rfl) rfl T.b_isinstance bt_isinstance (pa_cons (pv 1) (pa_cons (d_ty rfl T.b_tuple bt_tuple) pa_nil))))) (pss_one ps_never) pss_nil) (pss_cons (ps_for PassesOwn.never rfl (pi_enT K rfl T.b_enumerate (pa_cons (pv 1) pa_nil)) (d_gtup K (n := 2) rfl (pgs_cons (pg_name (i := 2) sc_check_entries.nd rfl (Or.inl rfl)) (pgs_cons (pg_name (i := 3) sc_check_entries.nd rfl (Or.inl rfl)) pgs_nil))) (pss_one (ps_if (PW.pt (pw_or (q_cmp (o_eq K hr.units) (pv 2) (d_gint T.i_MAX_ENTRIES)) (pw_or1 (pt_not (pt_val (d_call (D_is_int_in (K := K) (mg := mg) (base := base) T) pass0 (hr.mono (by first | decide | omega)) (pa_cons (pv 3) (pa_cons pe_int (pa_cons (d_gint T.i_MAX_ENTRY) pa_nil))))))))) (pss_one ps_never) pss_nil))) (pss_one (ps_if (q_cmp (o_eq K hr.units) (pv 1) (pe_tup pa_nil)) (pss_one ps_never) pss_nil))))), ?_⟩
    refine r_start (u := [some x, some (.ref p), none, none]) rfl ?_
    clear hr F T cdv A outer s
    exists "go"
    refine k_enT (xs.map V.int) (fun i σ H => ∃ v1 v2, σ = [some x, some (.ref p), v1, v2] ∧ S F1 L1 H) ⟨_, _, rfl, hS⟩ ?_ ?_ ?_
    · rintro i σ H hi ⟨v1, v2, rfl, hS⟩
      exists "tw sqt"
    · rintro i y σ H q hi ⟨v1, v2, rfl, hS⟩ hn
      have hS := hS.newF (o := .tup [.int (i : Nat), y]) hn
      rw [List.getElem?_map] at hi
      obtain ⟨z, hz, rfl⟩ := Option.map_eq_some_iff.mp hi
      have h1 := hx z (List.mem_of_getElem? hz)
      have h2 := (List.getElem?_eq_some_iff.mp hz).1
      exists "go"
      exact ⟨_, _, rfl, (by assumption : S _ L1 _).dropF⟩
    · rintro σ H ⟨v1, v2, rfl, hS⟩
      have hne : ¬ xs = [] := fun z => by rw [z] at l0; exact absurd l0 (by decide)
      exists "go"
      all_goals first
        | exact absurd (by assumption) hne
        | exact k _ (by assumption : S _ L1 _).dropF
theorem sc_greatest_common : FnScope ["one", "other"] ["one", "other"] (defScope s_greatest_common) := ⟨rfl, rfl, rfl, by decide +kernel, rfl, by decide +kernel, by decide +kernel⟩
theorem D_greatest_common (T : Hd K mg) : Df P w K mg base CX0 1 "greatest_common" ["one", "other"] spGcd := by
  refine mk_Df T.g_greatest_common T.f_greatest_common (fun _ _ _ _ _ _ us hl => match us, hl with | [_, _], _ => rfl) fun fd F => ?_
  refine F.ok sc_greatest_common (fun vs H Q E h => ?_) (fun cdv A outer s H vs Q E hr h => ?_)
  · obtain ⟨_, _, _, _, rfl, _⟩ := h
    rfl
  · obtain ⟨F1, L1, a, b, rfl, hS, k⟩ := h
    refine ⟨_, (PSs.nox (pss_cons (ps_while PassesOwn.never (q_cmp o_gt (pv 1) pe_int) (pss_one (ps_par rfl sc_greatest_common.nd (i := 0) (j := 1) rfl rfl (by decide) rfl rfl (pa_cons (pv 1) (pa_cons (d_mod (pv 0) (pv 1)) pa_nil)) (by rfl)))) (pss_one (ps_ret (pv 0))))), ?_⟩
    refine r_start (u := [some (.int a), some (.int b)]) rfl ?_
    clear hr F T cdv A outer s
    exists "go"
    refine k_whileT (fun m σ H => ∃ x y : Nat, σ = [some (.int x), some (.int y)] ∧ m = y ∧ Nat.gcd x y = Nat.gcd a b ∧ S F1 L1 H) b ⟨a, b, rfl, rfl, rfl, hS⟩ ?_
    rintro m σ H G ⟨x, y, rfl, hm, hg, hS⟩ hT hF
    subst m
    exists "go"
    by_cases hy : (0 : Int) < y
    · rw [decide_eq_true hy]
      refine hT _ ?_
      exists "go"
      refine ⟨x % y, Nat.mod_lt _ (by omega), y, x % y, rfl, rfl, ?_, hS⟩
      rw [← hg, Nat.gcd_comm x y, Nat.gcd_rec y x, Nat.gcd_comm]
    · rw [decide_eq_false hy]
      refine hF _ ?_
      exists "go"
      have e : y = 0 := by omega
      subst e
      rw [Nat.gcd_zero_right] at hg
      subst hg
      exact k _ hS
theorem sc_least_common : FnScope ["one", "other"] ["one", "other"] (defScope s_least_common) := ⟨rfl, rfl, rfl, by decide +kernel, rfl, by decide +kernel, by decide +kernel⟩
theorem D_least_common (T : Hd K mg) : Df P w K mg base CX0 2 "least_common" ["one", "other"] spLcm := by
  refine mk_Df T.g_least_common T.f_least_common (fun _ _ _ _ _ _ us hl => match us, hl with | [_, _], _ => rfl) fun fd F => ?_
  refine F.ok sc_least_common (fun vs H Q E h => ?_) (fun cdv A outer s H vs Q E hr h => ?_)
  · obtain ⟨_, _, _, _, rfl, _⟩ := h
    rfl
  · obtain ⟨F1, L1, a, b, rfl, h0, h1, h2, h3, hS, k⟩ := h
    refine ⟨_, (PSs.nox (pss_one (ps_ret (d_div (d_mul K (pv 0) (pv 1)) (d_call (D_greatest_common (K := K) (mg := mg) (base := base) T) pass0 (hr.mono (by first | decide | omega)) (pa_cons (pv 0) (pa_cons (pv 1) pa_nil))))))), ?_⟩
    refine r_start (u := [some (.int a), some (.int b)]) rfl ?_
    clear hr F T cdv A outer s
    have g0 : 0 < Nat.gcd a b := Nat.gcd_pos_of_pos_left _ h0
    have g1 : Nat.gcd a b ≤ a := Nat.le_of_dvd h0 (Nat.gcd_dvd_left _ _)
    exists "go"
    have e : (a : Int) * b / (Nat.gcd a b : Nat) = (Nat.lcm a b : Nat) := by
      unfold Nat.lcm
      rw [← Int.natCast_mul]
      rfl
    rw [e]
    exact k _ (by assumption)
theorem sc_Hall_init : FnScope ["self", "modulus", "takes", "calls", "lateness", "tick"] ["self", "modulus", "takes", "calls", "lateness"] (defScope s_Hall_init) := ⟨rfl, rfl, rfl, by decide +kernel, rfl, by decide +kernel, by decide +kernel⟩
theorem D_Hall_init (T : Hd K mg) : Dk P w K mg base CX0 3 (hC K) "Hall" ["self", "modulus", "takes", "calls", "lateness"] (spInit K) := by
  refine mk_Dk T.g_Hall T.k_Hall T.f_Hall_init (fun _ _ _ _ _ _ us hl => match us, hl with | [_, _, _, _, _], _ => rfl) fun fd F => ?_
  refine F.ok sc_Hall_init (fun vs H Q E h => ?_) (fun cdv A outer s H vs Q E hr h => ?_)
  · obtain ⟨_, _, _, _, _, _, _, _, rfl, _⟩ := h
    rfl
  · obtain ⟨F1, L0, L1, x, dx, pt, pc, d, rfl, ok, et, ec, hp, hS, k⟩ := h
    have hS := hS.pull hp
    refine ⟨_, (PSs.nox (pss_cons (ps_if (pt_not (pt_val (d_call (D_is_int_in (K := K) (mg := mg) (base := base) T) pass0 (hr.mono (by first | decide | omega)) (pa_cons (pv 1) (pa_cons (d_gint T.i_MIN_MODULUS) (pa_cons (d_gint T.i_MAX_MODULUS) pa_nil)))))) (pss_one ps_never) pss_nil) (pss_cons (ps_expr (d_call (D_check_entries (K := K) (mg := mg) (base := base) T) pass0 (hr.mono (by first | decide | omega)) (pa_cons pe_str (pa_cons (pv 2) pa_nil)))) (pss_cons (ps_expr (d_call (D_check_entries (K := K) (mg := mg) (base := base) T) pass0 (hr.mono (by first | decide | omega)) (pa_cons pe_str (pa_cons (pv 3) pa_nil)))) (pss_cons (ps_if (pt_not (pt_val (d_call (D_is_int_in (K := K) (mg := mg) (base := base) T) pass0 (hr.mono (by first | decide | omega)) (pa_cons (pv 4) (pa_cons pe_int (pa_cons (d_gint T.i_MAX_LATENESS) pa_nil)))))) (pss_one ps_never) pss_nil) (pss_cons (d_sfld K (pv 0) (pv 1)) (pss_cons (d_sfld K (pv 0) (pv 2)) (pss_cons (d_sfld K (pv 0) (pv 3)) (pss_cons (d_sfld K (pv 0) (pv 4)) (pss_cons (d_sfld K (pv 0) (d_call (D_least_common (K := K) (mg := mg) (base := base) T) pass0 (hr.mono (by first | decide | omega)) (pa_cons (pe_callB (c_len (K := K) rfl) rfl T.b_len bt_len (pa_cons (pv 2) pa_nil)) (pa_cons (pe_callB (c_len (K := K) rfl) rfl T.b_len bt_len (pa_cons (pv 3) pa_nil)) pa_nil)))) (pss_cons (d_sfld K (pv 0) (pe_lst (pa_cons pe_int pa_nil))) (pss_cons (d_sfld K (pv 0) (pe_lst (pa_cons pe_int pa_nil))) (pss_one (ps_for PassesOwn.never rfl (pi_range1 rfl T.b_range (pa_cons (d_mul K pe_int (d_fld K (pv 0))) pa_nil)) (pg_name (i := 5) sc_Hall_init.nd rfl (Or.inl rfl)) (pss_cons (ps_expr (d_bm K PySem.F.plainAttrs_list PySem.F.slot_list_append PySem.F.type_list_append mt_append (d_fld K (pv 0)) (pa_cons (d_add K (d_ix K (d_fld K (pv 0)) (d_neg pe_int) (fun _ _ => rfl)) (d_ix K (pv 2) (d_mod (pv 5) (pe_callB (c_len (K := K) rfl) rfl T.b_len bt_len (pa_cons (pv 2) pa_nil))) (fun _ _ => rfl))) pa_nil))) (pss_one (ps_expr (d_bm K PySem.F.plainAttrs_list PySem.F.slot_list_append PySem.F.type_list_append mt_append (d_fld K (pv 0)) (pa_cons (pe_callB (c_min (K := K) rfl rfl) rfl T.b_min bt_min (pa_cons (d_ix K (d_fld K (pv 0)) (d_neg pe_int) (fun _ _ => rfl)) (pa_cons (d_add K (d_ix K (d_fld K (pv 0)) (d_neg pe_int) (fun _ _ => rfl)) (d_ix K (pv 3) (d_mod (pv 5) (pe_callB (c_len (K := K) rfl) rfl T.b_len bt_len (pa_cons (pv 3) pa_nil))) (fun _ _ => rfl))) pa_nil))) pa_nil))))))))))))))))))), ?_⟩
    refine r_start (u := [some (.ref x), some (.int d.m), some (.ref pt), some (.ref pc), some (.int d.lt), none]) rfl ?_
    have hcH := T.c_Hall; have hn_modulus := T.n_modulus; have hn_takes := T.n_takes; have hn_calls := T.n_calls; have hn_lateness := T.n_lateness; have hn_length := T.n_length; have hn_taken_by := T.n_taken_by; have hn_called_by := T.n_called_by
    clear hr F T cdv A outer s hp
    have p0 := HD.per_pos ok
    have p1 := HD.per_le ok
    obtain ⟨m0, m1, t0, t1, t2, c0, c1, c2, l0, l1⟩ := id ok
    exists "go"
    rename_i pl H3 hS3 H4 hS4 ql H5 hS5 H6 hS6
    refine k_range (fun i σ H => ∃ v, σ = [some (.ref x), some (.int d.m), some (.ref pt), some (.ref pc), some (.int d.lt), v] ∧
      S F1 ((ql, .lst (Cs d (i + 1))) :: (pl, .lst (Ts d (i + 1))) :: (x, .ins (hC K) dx (hfs d pt pc pl ql)) :: L1) H) ⟨_, rfl, ?_⟩ ?_ ?_
    · exact hS6
    · rintro i σ H hi ⟨v, rfl, hS⟩
      clear hS3 hS4 hS5 hS6 H3 H4 H5 H6
      have a0 : 0 ≤ ((0 : Int) + (i : Int)) % (d.tk.length : Int) := Int.emod_nonneg _ (by omega)
      have a1 : ((0 : Int) + (i : Int)) % (d.tk.length : Int) < d.tk.length := Int.emod_lt_of_pos _ (by omega)
      have b0 : 0 ≤ ((0 : Int) + (i : Int)) % (d.cl.length : Int) := Int.emod_nonneg _ (by omega)
      have b1 : ((0 : Int) + (i : Int)) % (d.cl.length : Int) < d.cl.length := Int.emod_lt_of_pos _ (by omega)
      exists "go"
      refine ⟨_, rfl, ?_⟩
      have h := (by assumption : S F1 ((ql, _) :: (pl, _) :: (x, _) :: L1) _)
      rw [toNat_mod, toNat_mod] at h
      have e1 : Ts d (i + 1) ++ [V.int (d.T i + d.tk.getD (i % d.tk.length) 0)] = Ts d (i + 1 + 1) := range_snoc (g := fun t => V.int (d.T t)) rfl
      have e2 : Cs d (i + 1) ++ [V.int (min (d.T i + d.tk.getD (i % d.tk.length) 0) (d.C i + d.cl.getD (i % d.cl.length) 0))] = Cs d (i + 1 + 1) := range_snoc (g := fun t => V.int (d.C t)) rfl
      rw [e1, e2] at h
      exact h
    · rintro σ H ⟨v, rfl, hS⟩
      clear hS3 hS4 hS5 hS6 H3 H4 H5 H6
      exists "go"
      rw [show (2 * (d.per : Int)).toNat = 2 * d.per by omega] at hS
      have h1 := hS.frz.frz.frz
      have h2 := (h1.put_ (hallP K x d) (fun E e => ⟨dx, pt, pc, pl, ql, e _ List.mem_cons_self, et E (fun g hg => e g (by exists "tw mem")), ec E (fun g hg => e g (by exists "tw mem")), SqL.of (e (cel pl _) (by exists "tw mem")), SqL.of (e (cel ql _) (by exists "tw mem"))⟩))
      exact k _ (h2.mono (fun f hf => by
        rcases List.mem_cons.mp hf with rfl | hf
        · exact List.mem_cons_self
        · exists "tw mem") (List.Sublist.refl _))
theorem sc_Hall_growth : FnScope ["self"] ["self"] (defScope s_Hall_growth) := ⟨rfl, rfl, rfl, by decide +kernel, rfl, by decide +kernel, by decide +kernel⟩
theorem D_Hall_growth (T : Hd K mg) : Dpr P w K mg base CX0 1 (hC K) "growth" ["self"] (spGrowth K) := by
  refine mk_Dp T.c_Hall T.p_Hall_growth T.f_Hall_growth (fun _ _ _ _ _ _ us hl => match us, hl with | [_], _ => rfl) fun fd F => ?_
  refine F.ok sc_Hall_growth (fun vs H Q E h => ?_) (fun cdv A outer s H vs Q E hr h => ?_)
  · obtain ⟨_, _, _, _, rfl, _⟩ := h
    rfl
  · obtain ⟨F1, L1, x, d, rfl, ok, hx, hS, k⟩ := h
    refine ⟨_, (PSs.nox (pss_one (ps_ret (pe_callB (c_max (K := K) rfl rfl) rfl T.b_max bt_max (pa_cons pe_int (pa_cons (d_sub (d_ix K (d_fld K (pv 0)) (d_fld K (pv 0)) (fun _ _ => rfl)) (d_mul K (pe_callB (c_sum (K := K) rfl rfl) rfl T.b_sum bt_sum (pa_cons (d_fld K (pv 0)) pa_nil)) (d_div (d_fld K (pv 0)) (pe_callB (c_len (K := K) rfl) rfl T.b_len bt_len (pa_cons (d_fld K (pv 0)) pa_nil))))) pa_nil)))))), ?_⟩
    refine r_start (u := [some (.ref x)]) rfl ?_
    have hcH := T.c_Hall; have hn_modulus := T.n_modulus; have hn_takes := T.n_takes; have hn_calls := T.n_calls; have hn_lateness := T.n_lateness; have hn_length := T.n_length; have hn_taken_by := T.n_taken_by; have hn_called_by := T.n_called_by
    clear hr F T cdv A outer s
    obtain ⟨dx, pt, pc, pl, ql, hS⟩ := hS.hall hx
    have p0 := HD.per_pos ok
    have p1 := HD.per_le ok
    have c0 := ok.c0
    have c1 := ok.c1
    have s0 := (HD.sum_nonneg ok.c2).1
    have s1 := (HD.sum_nonneg ok.c2).2
    exists "go"
    have e : max 0 (d.T (d.per : Int).toNat - d.cl.sum * ((d.per : Int) / (d.cl.length : Int))) = d.gr := by
      unfold HD.gr
      rw [HD.B_sum, Int.toNat_natCast]
      rfl
    rw [e]
    exact k _ ((by assumption : S _ L1 _).mono (fun f hf => by exists "tw mem") (List.Sublist.refl _))
theorem sc_Hall_period : FnScope ["self"] ["self"] (defScope s_Hall_period) := ⟨rfl, rfl, rfl, by decide +kernel, rfl, by decide +kernel, by decide +kernel⟩
theorem D_Hall_period (T : Hd K mg) : Dpr P w K mg base CX0 1 (hC K) "period" ["self"] (spPeriod K) := by
  refine mk_Dp T.c_Hall T.p_Hall_period T.f_Hall_period (fun _ _ _ _ _ _ us hl => match us, hl with | [_], _ => rfl) fun fd F => ?_
  refine F.ok sc_Hall_period (fun vs H Q E h => ?_) (fun cdv A outer s H vs Q E hr h => ?_)
  · obtain ⟨_, _, _, _, rfl, _⟩ := h
    rfl
  · obtain ⟨F1, L1, x, d, rfl, hx, hS, k⟩ := h
    refine ⟨_, (PSs.nox (pss_one (ps_ret (d_fld K (pv 0))))), ?_⟩
    refine r_start (u := [some (.ref x)]) rfl ?_
    have hcH := T.c_Hall; have hn_modulus := T.n_modulus; have hn_takes := T.n_takes; have hn_calls := T.n_calls; have hn_lateness := T.n_lateness; have hn_length := T.n_length; have hn_taken_by := T.n_taken_by; have hn_called_by := T.n_called_by
    clear hr F T cdv A outer s
    exists "go"
    exact k _ (by assumption)
theorem sc_Hall_called : FnScope ["self", "tick", "rounds", "rest", "gain"] ["self", "tick"] (defScope s_Hall_called) := ⟨rfl, rfl, rfl, by decide +kernel, rfl, by decide +kernel, by decide +kernel⟩
theorem D_Hall_called (T : Hd K mg) : Dm P w K mg base CX0 1 (hC K) "called" ["self", "tick"] (spCalled K) := by
  refine mk_Dm T.c_Hall T.m_Hall_called T.f_Hall_called (fun _ _ _ _ _ _ us hl => match us, hl with | [_, _], _ => rfl) fun fd F => ?_
  refine F.ok sc_Hall_called (fun vs H Q E h => ?_) (fun cdv A outer s H vs Q E hr h => ?_)
  · obtain ⟨_, _, _, _, _, rfl, _⟩ := h
    rfl
  · obtain ⟨F1, L1, x, d, t, rfl, ok, hx, hS, k⟩ := h
    refine ⟨_, (PSs.nox (pss_cons (ps_if (q_cmp o_lt (pv 1) (d_mul K pe_int (d_fld K (pv 0)))) (pss_one (ps_ret (d_ix K (d_fld K (pv 0)) (pe_callB (c_max (K := K) rfl rfl) rfl T.b_max bt_max (pa_cons pe_int (pa_cons (pv 1) pa_nil))) (fun _ _ => rfl)))) pss_nil) (pss_cons (ps_asg (pe_callB c_divmod rfl T.b_divmod bt_divmod (pa_cons (d_sub (pv 1) (d_fld K (pv 0))) (pa_cons (d_fld K (pv 0)) pa_nil))) (d_gtup K (n := 2) rfl (pgs_cons (pg_name (i := 2) sc_Hall_called.nd rfl (Or.inl rfl)) (pgs_cons (pg_name (i := 3) sc_Hall_called.nd rfl (Or.inl rfl)) pgs_nil)))) (pss_cons (ps_set (i := 4) sc_Hall_called.nd rfl (Or.inl rfl) (d_sub (d_ix K (d_fld K (pv 0)) (d_mul K pe_int (d_fld K (pv 0))) (fun _ _ => rfl)) (d_ix K (d_fld K (pv 0)) (d_fld K (pv 0)) (fun _ _ => rfl)))) (pss_one (ps_ret (d_add K (d_mul K (pv 2) (pv 4)) (d_ix K (d_fld K (pv 0)) (d_add K (d_fld K (pv 0)) (pv 3)) (fun _ _ => rfl))))))))), ?_⟩
    refine r_start (u := [some (.ref x), some (.int t), none, none, none]) rfl ?_
    have hcH := T.c_Hall; have hn_modulus := T.n_modulus; have hn_takes := T.n_takes; have hn_calls := T.n_calls; have hn_lateness := T.n_lateness; have hn_length := T.n_length; have hn_taken_by := T.n_taken_by; have hn_called_by := T.n_called_by
    clear hr F T cdv A outer s
    obtain ⟨dx, pt, pc, pl, ql, hS⟩ := hS.hall hx
    have p0 := HD.per_pos ok
    have p1 := HD.per_le ok
    have e2 : 0 ≤ (t - d.per) % (d.per : Int) := Int.emod_nonneg _ (by omega)
    have e3 : (t - d.per) % (d.per : Int) < d.per := Int.emod_lt_of_pos _ (by omega)
    have e5 : 0 ≤ t - d.per → 0 ≤ (t - d.per) / (d.per : Int) ∧ (t - d.per) / (d.per : Int) ≤ t - d.per := fun h => ⟨Int.ediv_nonneg h (by omega), Int.ediv_le_self _ h⟩
    have e6 : 0 ≤ t - d.per → 0 ≤ (t - d.per) / (d.per : Int) := fun h => (e5 h).1
    have e7 : 0 ≤ t - d.per → (t - d.per) / (d.per : Int) ≤ t - d.per := fun h => (e5 h).2
    clear e5
    have b0 := (HD.C_bd ok (n := (d.per : Int).toNat) (by omega)).1
    have b1 := (HD.C_bd ok (n := (d.per : Int).toNat) (by omega)).2
    have b2 := (HD.C_bd ok (n := (2 * (d.per : Int)).toNat) (by omega)).1
    have b3 := (HD.C_bd ok (n := (2 * (d.per : Int)).toNat) (by omega)).2
    exists "go"
    · rw [show (max 0 t).toNat = t.toNat by omega]
      exact k _ ((by assumption : S _ L1 _).mono (fun f hf => by exists "tw mem") (List.Sublist.refl _))
    · obtain ⟨n, rfl⟩ : ∃ n : Nat, t = n := ⟨t.toNat, by omega⟩
      have hn : d.per ≤ n := by omega
      have e := HD.C_div ok n hn
      have g := HD.gain_eq ok
      have e8 : ((n : Int) - (d.per : Int)) = ((n - d.per : Nat) : Int) := by omega
      have e4 : (((n : Int) - (d.per : Int)) / (d.per : Int)) * (d.C (Int.toNat (2 * (d.per : Int))) - d.C (Int.toNat (d.per : Int))) + d.C (Int.toNat ((d.per : Int) + ((n : Int) - (d.per : Int)) % (d.per : Int))) = d.C (Int.toNat (n : Int)) := by
        rw [show (2 * (d.per : Int)).toNat = 2 * d.per by omega, Int.toNat_natCast, Int.toNat_natCast, e, g, e8]
        rw [show ((d.per : Int) + ((n - d.per : Nat) : Int) % (d.per : Int)).toNat = d.per + (n - d.per) % d.per by
          rw [show ((n - d.per : Nat) : Int) % (d.per : Int) = (((n - d.per) % d.per : Nat) : Int) from rfl]; omega]
        rfl
      rw [e4]
      exact k _ ((by assumption : S _ L1 _).mono (fun f hf => by exists "tw mem") (List.Sublist.refl _))
theorem sc_Hall_taken : FnScope ["self", "tick", "rounds", "rest"] ["self", "tick"] (defScope s_Hall_taken) := ⟨rfl, rfl, rfl, by decide +kernel, rfl, by decide +kernel, by decide +kernel⟩
theorem D_Hall_taken (T : Hd K mg) : Dm P w K mg base CX0 1 (hC K) "taken" ["self", "tick"] (spTaken K) := by
  refine mk_Dm T.c_Hall T.m_Hall_taken T.f_Hall_taken (fun _ _ _ _ _ _ us hl => match us, hl with | [_, _], _ => rfl) fun fd F => ?_
  refine F.ok sc_Hall_taken (fun vs H Q E h => ?_) (fun cdv A outer s H vs Q E hr h => ?_)
  · obtain ⟨_, _, _, _, _, rfl, _⟩ := h
    rfl
  · obtain ⟨F1, L1, x, d, t, rfl, ok, hx, h0, hS, k⟩ := h
    refine ⟨_, (PSs.nox (pss_cons (ps_asg (pe_callB c_divmod rfl T.b_divmod bt_divmod (pa_cons (pv 1) (pa_cons (d_fld K (pv 0)) pa_nil))) (d_gtup K (n := 2) rfl (pgs_cons (pg_name (i := 2) sc_Hall_taken.nd rfl (Or.inl rfl)) (pgs_cons (pg_name (i := 3) sc_Hall_taken.nd rfl (Or.inl rfl)) pgs_nil)))) (pss_one (ps_ret (d_add K (d_mul K (pv 2) (d_ix K (d_fld K (pv 0)) (d_fld K (pv 0)) (fun _ _ => rfl))) (d_ix K (d_fld K (pv 0)) (pv 3) (fun _ _ => rfl))))))), ?_⟩
    refine r_start (u := [some (.ref x), some (.int t), none, none]) rfl ?_
    have hcH := T.c_Hall; have hn_modulus := T.n_modulus; have hn_takes := T.n_takes; have hn_calls := T.n_calls; have hn_lateness := T.n_lateness; have hn_length := T.n_length; have hn_taken_by := T.n_taken_by; have hn_called_by := T.n_called_by
    clear hr F T cdv A outer s
    obtain ⟨n, rfl⟩ := Int.eq_ofNat_of_zero_le h0
    obtain ⟨dx, pt, pc, pl, ql, hS⟩ := hS.hall hx
    have p0 := HD.per_pos ok
    have p1 := HD.per_le ok
    have e0 : 0 ≤ (n : Int) / (d.per : Int) := Int.ediv_nonneg (by omega) (by omega)
    have e1 : (n : Int) / (d.per : Int) ≤ n := Int.ediv_le_self _ (by omega)
    have e2 : 0 ≤ (n : Int) % (d.per : Int) := Int.emod_nonneg _ (by omega)
    have e3 : (n : Int) % (d.per : Int) < d.per := Int.emod_lt_of_pos _ (by omega)
    have b0 := (HD.T_bd ok (n := (d.per : Int).toNat) (by omega)).1
    have b1 := (HD.T_bd ok (n := (d.per : Int).toNat) (by omega)).2
    exists "go"
    have e := HD.T_div ok n
    have e4 : ((n : Int) / (d.per : Int)) * d.T (Int.toNat (d.per : Int)) + d.T (Int.toNat ((n : Int) % (d.per : Int))) = d.T (Int.toNat (n : Int)) := by
      rw [Int.toNat_natCast, Int.toNat_natCast, e]
      rfl
    rw [e4]
    exact k _ ((by assumption : S _ L1 _).mono (fun f hf => by exists "tw mem") (List.Sublist.refl _))
theorem sc_open_range : FnScope ["hall", "tick"] ["hall", "tick"] (defScope s_open_range) := ⟨rfl, rfl, rfl, by decide +kernel, rfl, by decide +kernel, by decide +kernel⟩
theorem D_open_range (T : Hd K mg) : Df P w K mg base CX0 2 "open_range" ["hall", "tick"] (spRange K) := by
  refine mk_Df T.g_open_range T.f_open_range (fun _ _ _ _ _ _ us hl => match us, hl with | [_, _], _ => rfl) fun fd F => ?_
  refine F.ok sc_open_range (fun vs H Q E h => ?_) (fun cdv A outer s H vs Q E hr h => ?_)
  · obtain ⟨_, _, _, _, _, rfl, _⟩ := h
    rfl
  · obtain ⟨F1, L1, x, d, t, rfl, ok, hx, h0, hS, k⟩ := h
    refine ⟨_, (PSs.nox (pss_one (ps_ret (pe_tup (pa_cons (d_meth (D_Hall_called (K := K) (mg := mg) (base := base) T) pass0 (hr.mono (by first | decide | omega)) (pv 0) (pa_cons (d_sub (pv 1) (d_fld K (pv 0))) pa_nil)) (pa_cons (d_meth (D_Hall_taken (K := K) (mg := mg) (base := base) T) pass0 (hr.mono (by first | decide | omega)) (pv 0) (pa_cons (d_add K (pv 1) pe_int) pa_nil)) pa_nil)))))), ?_⟩
    refine r_start (u := [some (.ref x), some (.int t)]) rfl ?_
    have hcH := T.c_Hall; have hn_modulus := T.n_modulus; have hn_takes := T.n_takes; have hn_calls := T.n_calls; have hn_lateness := T.n_lateness; have hn_length := T.n_length; have hn_taken_by := T.n_taken_by; have hn_called_by := T.n_called_by
    clear hr F T cdv A outer s

    exists "go"
    rename_i p H3 hS3
    exact k p _ ((hS3.put_ (tuF K p [.int (d.C (t - d.lt).toNat), .int (d.T (t + 1).toNat)]) (by exists "tw ent")).sub (by exists "tw sub") (by exists "tw sub"))
theorem sc_count_open : FnScope ["hall", "tick", "first", "end"] ["hall", "tick"] (defScope s_count_open) := ⟨rfl, rfl, rfl, by decide +kernel, rfl, by decide +kernel, by decide +kernel⟩
theorem D_count_open (T : Hd K mg) : Df P w K mg base CX0 3 "count_open" ["hall", "tick"] (spCount K) := by
  refine mk_Df T.g_count_open T.f_count_open (fun _ _ _ _ _ _ us hl => match us, hl with | [_, _], _ => rfl) fun fd F => ?_
  refine F.ok sc_count_open (fun vs H Q E h => ?_) (fun cdv A outer s H vs Q E hr h => ?_)
  · obtain ⟨_, _, _, _, _, rfl, _⟩ := h
    rfl
  · obtain ⟨F1, L1, x, d, t, rfl, ok, hx, h0, hS, k⟩ := h
    refine ⟨_, (PSs.nox (pss_cons (ps_asg (d_call (D_open_range (K := K) (mg := mg) (base := base) T) pass0 (hr.mono (by first | decide | omega)) (pa_cons (pv 0) (pa_cons (pv 1) pa_nil))) (d_gtup K (n := 2) rfl (pgs_cons (pg_name (i := 2) sc_count_open.nd rfl (Or.inl rfl)) (pgs_cons (pg_name (i := 3) sc_count_open.nd rfl (Or.inl rfl)) pgs_nil)))) (pss_one (ps_ret (d_sub (pv 3) (pv 2)))))), ?_⟩
    refine r_start (u := [some (.ref x), some (.int t), none, none]) rfl ?_
    clear hr F T cdv A outer s

    exists "go"
    have e : d.T (t + 1).toNat - d.C (t - d.lt).toNat = d.O t.toNat := by
      unfold HD.O
      rw [show (t + 1).toNat = t.toNat + 1 by omega, Int.toNat_of_nonneg h0]
    rw [e]
    exact k _ (by exists "tw wk")
theorem sc_most_open : FnScope ["hall", "tick"] ["hall"] (defScope s_most_open) := ⟨rfl, rfl, rfl, by decide +kernel, rfl, by decide +kernel, by decide +kernel⟩
theorem D_most_open (T : Hd K mg) : Df P w K mg base CX0 4 "most_open" ["hall"] (spMost K gMost) := by
  refine mk_Df T.g_most_open T.f_most_open (fun _ _ _ _ _ _ us hl => match us, hl with | [_], _ => rfl) fun fd F => ?_
  refine F.ok sc_most_open (fun vs H Q E h => ?_) (fun cdv A outer s H vs Q E hr h => ?_)
  · obtain ⟨_, _, _, _, rfl, _⟩ := h
    rfl
  · obtain ⟨F1, L1, x, d, rfl, ok, hx, hS, k0, k1⟩ := h
    refine ⟨_, (PSs.nox (pss_cons (ps_if (q_cmp o_gt (d_prop (D_Hall_growth (K := K) (mg := mg) (base := base) T) pass0 (hr.mono (by first | decide | omega)) (pv 0)) pe_int) (pss_one (ps_ret pe_non)) pss_nil) (pss_one (ps_ret (pe_callB (c_max (K := K) rfl rfl) rfl T.b_max bt_max (pa_cons (pe_lc (own := [("tick", 1)]) rfl sc_most_open.nd (pi_range1 rfl T.b_range (pa_cons (d_add K (d_mul K pe_int (d_prop (D_Hall_period (K := K) (mg := mg) (base := base) T) pass0 (hr.mono (by first | decide | omega)) (pv 0))) (d_fld K (pv 0))) pa_nil)) (blkOk_by (own := [("tick", 1)]) (by show blkC ["hall", "tick"] (defScope s_most_open) _ _ = true; decide +kernel)) (fun _ _ _ _ _ => (pg_name (i := 1) sc_most_open.nd rfl (by first | exact Or.inl rfl | exact Or.inr rfl))) (fun _ _ _ _ _ => pts_nil) (fun _ _ _ _ _ => (d_call (D_count_open (K := K) (mg := mg) (base := base) T) pass0 (hr.mono (by first | decide | omega)) (pa_cons (pv 0) (pa_cons (pv 1) pa_nil))))) pa_nil)))))), ?_⟩
    refine r_start (u := [some (.ref x), none]) rfl ?_
    have hcH := T.c_Hall; have hn_modulus := T.n_modulus; have hn_takes := T.n_takes; have hn_calls := T.n_calls; have hn_lateness := T.n_lateness; have hn_length := T.n_length; have hn_taken_by := T.n_taken_by; have hn_called_by := T.n_called_by
    clear hr F T cdv A outer s

    have p0 := HD.per_pos ok
    have p1 := HD.per_le ok
    have l0 := ok.l0
    have l1 := ok.l1
    exists "go"
    · exact k0 (by assumption) _ (by exists "tw wk")
    · rename_i hc H2 hS2
      have g0 := HD.gr_nonneg (d := d)
      refine k_lcR (by exists "tw wip") hS2 (fun l i H => S F1 ((l, .lst ((List.range i).map fun t => V.int (d.O t))) :: L1) H) (fun l H hS => by rw [range_zero]; exact hS) ?_ ?_
      · rintro l j H hj hS
        clear hS2 H2
        exists "go"
        have g := (by assumption : S _ ((l, _) :: _) _)
        rw [toNat_i, range_snoc (g := fun t => V.int (d.O t)) (n := j) rfl] at g
        exact g
      · rintro l H hS
        clear hS2 H2
        exists "go"
        refine x_maxR (f := d.O) (by exists "tw sql") (by omega) fun m m0 m1 => ?_
        exists "go"
        exact k1 m (by omega) (HD.most_of ok (by omega) (by omega) m0 m1) _ (by exists "tw wk")

theorem sc_Bench_change : FnScope ["self", "word", "value", "parts", "hall"] ["self", "word", "value"] (defScope s_Bench_change) := ⟨rfl, rfl, rfl, by decide +kernel, rfl, by decide +kernel, by decide +kernel⟩
theorem D_Bench_change (T : Hd K mg) : Dm P w K mg base CX0 6 (bC K) "change" ["self", "word", "value"] (spChange K) := by
  refine mk_Dm T.c_Bench T.m_Bench_change T.f_Bench_change (fun _ _ _ _ _ _ us hl => match us, hl with | [_, _, _], _ => rfl) fun fd F => ?_
  refine F.ok sc_Bench_change (fun vs H Q E h => ?_) (fun cdv A outer s H vs Q E hr h => ?_)
  · obtain ⟨_, _, _, rfl, _⟩ := h
    rfl
  · obtain ⟨b, w9, v, rfl, F1, L1, L2, dx, x, lp, lu, ds, vp, vu, bs, d2, P9, hl, hc, hS, k⟩ := h
    refine ⟨_, (PSs.nox (pss_cons (ps_set (i := 3) sc_Bench_change.nd rfl (Or.inl rfl) (pe_lst (pa_cons (d_fld K (d_fld K (pv 0))) (pa_cons (d_fld K (d_fld K (pv 0))) (pa_cons (d_fld K (d_fld K (pv 0))) (pa_cons (d_fld K (d_fld K (pv 0))) pa_nil)))))) (pss_cons (ps_asg (pv 2) (pg_sub (pv 3) (d_bm K PySem.F.plainAttrs_tuple PySem.F.slot_tuple_index PySem.F.type_tuple_index (m_tidx (K := K) rfl) (d_gref T.g_WORDS) (pa_cons (pv 1) pa_nil)) set_list)) (pss_cons (ps_set (i := 4) sc_Bench_change.nd rfl (Or.inl rfl) (d_makeS K (D_Hall_init (K := K) (mg := mg) (base := base) T) pass0 (hr.mono (by first | decide | omega)) (pv 3))) (pss_cons (ps_expr (d_bm K PySem.F.plainAttrs_list PySem.F.slot_list_append PySem.F.type_list_append mt_append (d_fld K (pv 0)) (pa_cons (pe_tup (pa_cons (pv 1) (pa_cons (d_fld K (pv 0)) (pa_cons (pv 4) pa_nil)))) pa_nil))) (pss_cons (d_sfld K (pv 0) (pe_lst pa_nil)) (pss_cons (d_sfld K (pv 0) (pv 4)) (pss_one (ps_ret (d_call (D_most_open (K := K) (mg := mg) (base := base) T) pass0 (hr.mono (by first | decide | omega)) (pa_cons (pv 4) pa_nil))))))))))), ?_⟩
    refine r_start (u := [some (.ref b), some (.str w9), some v, none, none]) rfl ?_
    have hcH := T.c_Hall; have hn_modulus := T.n_modulus; have hn_takes := T.n_takes; have hn_calls := T.n_calls; have hn_lateness := T.n_lateness; have hn_length := T.n_length; have hn_taken_by := T.n_taken_by; have hn_called_by := T.n_called_by
    have hcBench := T.c_Bench; have hn_Bench_now := T.n_Bench_now; have hn_Bench_past := T.n_Bench_past; have hn_Bench_undone := T.n_Bench_undone; have hn_Bench_saved := T.n_Bench_saved
    have hW := T.t_WORDS
    have hY := T.y_WORDS
    clear hr F T cdv A outer s
    have hb := bnPre_s P9 hS
    have ok2 := hc.ok P9.1.d
    obtain ⟨ok, hx, hp, hu, _⟩ := P9
    have el : vp.length = bs.p.length := (hS.phi hp).len
    cases hc with
    | @m kk h0 h1 =>
      exists "go"
      refine x_tyT hY ?_
      exists "go"
      refine x_tidx (ys := ["modulus", "takes", "calls", "lateness"]) (j := 0) (hW _) rfl (fun m h => absurd h (Nat.not_lt_zero _)) ?_
      exists "go"
      refine x_makeS (by assumption) (by exists "tw sql") fun y dy H1 hS1 => ?_
      exists "go"
      refine c_init (h := (⟨kk, bs.d.tk, bs.d.cl, bs.d.lt⟩ : HD)) hS1 ok2 (Ent.mem (show tuF K _ (bs.d.tk.map V.int) ∈ _ by exists "tw mem")) (Ent.mem (show tuF K _ (bs.d.cl.map V.int) ∈ _ by exists "tw mem")) (by exists "tw put") fun H hS => ?_
      exists "go"
      rename_i q H2 hS2 H3 hS3 lu2 H4 hS4 H5 hS5 H6 hS6
      have hS7 : S _ ((lu2, .lst []) :: (_, _) :: bCell K b dx y lp lu2 ds :: (lp, .lst (vp ++ [.ref q])) :: (lu, .lst vu) :: L2) H6 := hS6
      refine ⟨_, _, y, _, rfl, ok2, (by exists "tw mem"), hS7, fun g H hS => ?_, fun m g hm H hS => ?_⟩
      · refine k .non (.inl ⟨rfl, g⟩) y lp lu2 _ _ _ (chg_post hS ?_ (show hallP K x bs.d ∈ _ by exists "tw mem") ?_ (show ensP K vp bs.p ∈ _ by exists "tw mem") ?_)
        · exists "tw mem"
        · exists "tw mem"
        · exact fun f hf => by exists "tw mem"
      · refine k (.int m) (.inr ⟨m, rfl, g, hm⟩) y lp lu2 _ _ _ (chg_post hS ?_ (show hallP K x bs.d ∈ _ by exists "tw mem") ?_ (show ensP K vp bs.p ∈ _ by exists "tw mem") ?_)
        · exists "tw mem"
        · exists "tw mem"
        · exact fun f hf => by exists "tw mem"
    | @t p8 xs h0 h1 h2 e =>
      exists "go"
      refine x_tyT hY ?_
      exists "go"
      refine x_tidx (ys := ["modulus", "takes", "calls", "lateness"]) (j := 1) (hW _) rfl (fun m h => by rcases (show m = 0 ∨ m = 0 by omega) with rfl | rfl <;> decide) ?_
      exists "go"
      refine x_makeS (by assumption) (by exists "tw sql") fun y dy H1 hS1 => ?_
      exists "go"
      refine c_init (h := (⟨bs.d.m, xs, bs.d.cl, bs.d.lt⟩ : HD)) hS1 ok2 (e.mono fun f hf => by exists "tw mem") (Ent.mem (show tuF K _ (bs.d.cl.map V.int) ∈ _ by exists "tw mem")) (by exists "tw put") fun H hS => ?_
      exists "go"
      rename_i q H2 hS2 H3 hS3 lu2 H4 hS4 H5 hS5 H6 hS6
      have hS7 : S _ ((lu2, .lst []) :: (_, _) :: bCell K b dx y lp lu2 ds :: (lp, .lst (vp ++ [.ref q])) :: (lu, .lst vu) :: L2) H6 := hS6
      refine ⟨_, _, y, _, rfl, ok2, (by exists "tw mem"), hS7, fun g H hS => ?_, fun m g hm H hS => ?_⟩
      · refine k .non (.inl ⟨rfl, g⟩) y lp lu2 _ _ _ (chg_post hS ?_ (show hallP K x bs.d ∈ _ by exists "tw mem") ?_ (show ensP K vp bs.p ∈ _ by exists "tw mem") ?_)
        · exists "tw mem"
        · exists "tw mem"
        · exact fun f hf => by exists "tw mem"
      · refine k (.int m) (.inr ⟨m, rfl, g, hm⟩) y lp lu2 _ _ _ (chg_post hS ?_ (show hallP K x bs.d ∈ _ by exists "tw mem") ?_ (show ensP K vp bs.p ∈ _ by exists "tw mem") ?_)
        · exists "tw mem"
        · exists "tw mem"
        · exact fun f hf => by exists "tw mem"
    | @c p8 xs h0 h1 h2 e =>
      exists "go"
      refine x_tyT hY ?_
      exists "go"
      refine x_tidx (ys := ["modulus", "takes", "calls", "lateness"]) (j := 2) (hW _) rfl (fun m h => by rcases (show m = 0 ∨ m = 1 by omega) with rfl | rfl <;> decide) ?_
      exists "go"
      refine x_makeS (by assumption) (by exists "tw sql") fun y dy H1 hS1 => ?_
      exists "go"
      refine c_init (h := (⟨bs.d.m, bs.d.tk, xs, bs.d.lt⟩ : HD)) hS1 ok2 (Ent.mem (show tuF K _ (bs.d.tk.map V.int) ∈ _ by exists "tw mem")) (e.mono fun f hf => by exists "tw mem") (by exists "tw put") fun H hS => ?_
      exists "go"
      rename_i q H2 hS2 H3 hS3 lu2 H4 hS4 H5 hS5 H6 hS6
      have hS7 : S _ ((lu2, .lst []) :: (_, _) :: bCell K b dx y lp lu2 ds :: (lp, .lst (vp ++ [.ref q])) :: (lu, .lst vu) :: L2) H6 := hS6
      refine ⟨_, _, y, _, rfl, ok2, (by exists "tw mem"), hS7, fun g H hS => ?_, fun m g hm H hS => ?_⟩
      · refine k .non (.inl ⟨rfl, g⟩) y lp lu2 _ _ _ (chg_post hS ?_ (show hallP K x bs.d ∈ _ by exists "tw mem") ?_ (show ensP K vp bs.p ∈ _ by exists "tw mem") ?_)
        · exists "tw mem"
        · exists "tw mem"
        · exact fun f hf => by exists "tw mem"
      · refine k (.int m) (.inr ⟨m, rfl, g, hm⟩) y lp lu2 _ _ _ (chg_post hS ?_ (show hallP K x bs.d ∈ _ by exists "tw mem") ?_ (show ensP K vp bs.p ∈ _ by exists "tw mem") ?_)
        · exists "tw mem"
        · exists "tw mem"
        · exact fun f hf => by exists "tw mem"
    | @l kk h0 h1 =>
      exists "go"
      refine x_tyT hY ?_
      exists "go"
      refine x_tidx (ys := ["modulus", "takes", "calls", "lateness"]) (j := 3) (hW _) rfl (fun m h => by rcases (show m = 0 ∨ m = 1 ∨ m = 2 by omega) with rfl | rfl | rfl <;> decide) ?_
      exists "go"
      refine x_makeS (by assumption) (by exists "tw sql") fun y dy H1 hS1 => ?_
      exists "go"
      refine c_init (h := (⟨bs.d.m, bs.d.tk, bs.d.cl, kk⟩ : HD)) hS1 ok2 (Ent.mem (show tuF K _ (bs.d.tk.map V.int) ∈ _ by exists "tw mem")) (Ent.mem (show tuF K _ (bs.d.cl.map V.int) ∈ _ by exists "tw mem")) (by exists "tw put") fun H hS => ?_
      exists "go"
      rename_i q H2 hS2 H3 hS3 lu2 H4 hS4 H5 hS5 H6 hS6
      have hS7 : S _ ((lu2, .lst []) :: (_, _) :: bCell K b dx y lp lu2 ds :: (lp, .lst (vp ++ [.ref q])) :: (lu, .lst vu) :: L2) H6 := hS6
      refine ⟨_, _, y, _, rfl, ok2, (by exists "tw mem"), hS7, fun g H hS => ?_, fun m g hm H hS => ?_⟩
      · refine k .non (.inl ⟨rfl, g⟩) y lp lu2 _ _ _ (chg_post hS ?_ (show hallP K x bs.d ∈ _ by exists "tw mem") ?_ (show ensP K vp bs.p ∈ _ by exists "tw mem") ?_)
        · exists "tw mem"
        · exists "tw mem"
        · exact fun f hf => by exists "tw mem"
      · refine k (.int m) (.inr ⟨m, rfl, g, hm⟩) y lp lu2 _ _ _ (chg_post hS ?_ (show hallP K x bs.d ∈ _ by exists "tw mem") ?_ (show ensP K vp bs.p ∈ _ by exists "tw mem") ?_)
        · exists "tw mem"
        · exists "tw mem"
        · exact fun f hf => by exists "tw mem"

theorem sc_Bench_set_modulus : FnScope ["self", "modulus"] ["self", "modulus"] (defScope s_Bench_set_modulus) := ⟨rfl, rfl, rfl, by decide +kernel, rfl, by decide +kernel, by decide +kernel⟩
theorem D_Bench_set_modulus (T : Hd K mg) : Dm P w K mg base CX0 7 (bC K) "set_modulus" ["self", "modulus"] (spSet K "modulus") := by
  refine mk_Dm T.c_Bench T.m_Bench_set_modulus T.f_Bench_set_modulus (fun _ _ _ _ _ _ us hl => match us, hl with | [_, _], _ => rfl) fun fd F => ?_
  refine F.ok sc_Bench_set_modulus (fun vs H Q E h => ?_) (fun cdv A outer s H vs Q E hr h => ?_)
  · obtain ⟨_, _, rfl, _⟩ := h
    rfl
  · obtain ⟨b, v, rfl, F1, L1, L2, dx, x, lp, lu, ds, vp, vu, bs, d2, P9, hl, hc, hS, k⟩ := h
    refine ⟨_, (PSs.nox (pss_one (ps_ret (d_meth (D_Bench_change (K := K) (mg := mg) (base := base) T) pass0 (hr.mono (by first | decide | omega)) (pv 0) (pa_cons (d_gstr T.s_MODULUS) (pa_cons (pv 1) pa_nil)))))), ?_⟩
    refine r_start (u := [some (.ref b), some v]) rfl ?_
    have hcH := T.c_Hall; have hn_modulus := T.n_modulus; have hn_takes := T.n_takes; have hn_calls := T.n_calls; have hn_lateness := T.n_lateness; have hn_length := T.n_length; have hn_taken_by := T.n_taken_by; have hn_called_by := T.n_called_by
    have hcBench := T.c_Bench; have hn_Bench_now := T.n_Bench_now; have hn_Bench_past := T.n_Bench_past; have hn_Bench_undone := T.n_Bench_undone; have hn_Bench_saved := T.n_Bench_saved
    clear hr F T cdv A outer s
    replace hS := bnPre_s P9 hS
    replace P9 : BnPre K F1 (bCell K b dx x lp lu ds :: (lp, .lst vp) :: (lu, .lst vu) :: L2) L2 b dx x lp lu ds vp vu bs := bnPre P9.1 P9.2.1 P9.2.2.1 P9.2.2.2.1 .head .head .head
    exists "go"
    exact c_chg P9 hl hc hS k
theorem sc_Hall_text : FnScope ["self", "rows", "word", "row", "number"] ["self"] (defScope s_Hall_text) := ⟨rfl, rfl, rfl, by decide +kernel, rfl, by decide +kernel, by decide +kernel⟩
theorem D_Hall_text (T : Hd K mg) : Dpr P w K mg base CX0 1 (hC K) "text" ["self"] (spText K) := by
  refine mk_Dp T.c_Hall T.p_Hall_text T.f_Hall_text (fun _ _ _ _ _ _ us hl => match us, hl with | [_], _ => rfl) fun fd F => ?_
  refine F.ok sc_Hall_text (fun vs H Q E h => ?_) (fun cdv A outer s H vs Q E hr h => ?_)
  · obtain ⟨_, _, _, _, rfl, _⟩ := h
    rfl
  · obtain ⟨F1, L1, x, d, rfl, ok, hx, hS, k⟩ := h
    refine ⟨_, (PSs.nox (pss_cons (ps_set (i := 1) sc_Hall_text.nd rfl (Or.inl rfl) (pe_lst (pa_cons (pe_lst (pa_cons (d_fld K (pv 0)) pa_nil)) (pa_cons (pe_callTy (c_list (K := K) rfl) rfl T.b_list bt_list (pa_cons (d_fld K (pv 0)) pa_nil)) (pa_cons (pe_callTy (c_list (K := K) rfl) rfl T.b_list bt_list (pa_cons (d_fld K (pv 0)) pa_nil)) (pa_cons (pe_lst (pa_cons (d_fld K (pv 0)) pa_nil)) pa_nil)))))) (pss_one (ps_ret (d_join K pe_str (pe_lc (own := [("word", 2), ("row", 3)]) rfl sc_Hall_text.nd (d_zipM K rfl T.b_zip (pa_cons (d_gref T.g_WORDS) (pa_cons (pv 1) pa_nil))) (blkOk_by (own := [("word", 2), ("row", 3)]) (by show blkC ["self", "rows", "word", "row", "number"] (defScope s_Hall_text) _ _ = true; decide +kernel)) (fun _ _ _ _ _ => (d_gtup K (n := 2) rfl (pgs_cons (pg_name (i := 2) sc_Hall_text.nd rfl (by first | exact Or.inl rfl | exact Or.inr rfl)) (pgs_cons (pg_name (i := 3) sc_Hall_text.nd rfl (by first | exact Or.inl rfl | exact Or.inr rfl)) pgs_nil)))) (fun _ _ _ _ _ => pts_nil) (fun _ _ _ _ _ => (d_join K pe_str (d_add K (pe_lst (pa_cons (pv 2) pa_nil)) (pe_lc (own := [("number", 4)]) rfl sc_Hall_text.nd (d_ilist K (pv 3)) (blkOk_by (own := [("number", 4)]) (by kernel_rfl)) (fun _ _ _ _ _ => (pg_name (i := 4) sc_Hall_text.nd rfl (by first | exact Or.inl rfl | exact Or.inr rfl))) (fun _ _ _ _ _ => pts_nil) (fun _ _ _ _ _ => (pe_callTy c_str rfl T.b_str bt_str (pa_cons (pv 4) pa_nil))))))))))))), ?_⟩
    refine r_start (u := [some (.ref x), none, none, none, none]) rfl ?_
    have hcH := T.c_Hall; have hn_modulus := T.n_modulus; have hn_takes := T.n_takes; have hn_calls := T.n_calls; have hn_lateness := T.n_lateness; have hn_length := T.n_length; have hn_taken_by := T.n_taken_by; have hn_called_by := T.n_called_by
    have hW := T.t_WORDS
    clear hr F T cdv A outer s
    exists "go"
    rename_i p0 H0 hS0 pt hSt p1 H1 hS1 pc hSc p2 H2 hS2 p3 H3 hS3 rw H4 hS4
    have hS5 := (hS4.frz.frz.frz.frz.frz).sub (F' := cel p0 (.lst [.int d.m]) :: cel p1 (.lst (d.tk.map V.int)) :: cel p2 (.lst (d.cl.map V.int)) :: cel p3 (.lst [.int d.lt]) :: cel rw (.lst [.ref p0, .ref p1, .ref p2, .ref p3]) :: F1) (by exists "tw sub") (List.Sublist.refl _)
    clear hS hS0 hSt hS1 hSc hS2 hS3 hS4
    have hrow : ∀ (i : Nat) (x y : V), (wordsL.map V.str)[i]? = some x → [V.ref p0, V.ref p1, V.ref p2, V.ref p3][i]? = some y → ∃ w q ns, x = .str w ∧ y = .ref q ∧ cel q (.lst (ns.map V.int)) ∈ (cel p0 (.lst [.int d.m]) :: cel p1 (.lst (d.tk.map V.int)) :: cel p2 (.lst (d.cl.map V.int)) :: cel p3 (.lst [.int d.lt]) :: cel rw (.lst [.ref p0, .ref p1, .ref p2, .ref p3]) :: F1) ∧ (rowsT d)[i]? = some (rowT w ns) ∧ w.length ≤ 10 ∧ ns.length ≤ 12 ∧ (∀ n ∈ ns, 0 ≤ n ∧ n < 100000) ∧ 0 < ns.length :=
      fun i x y hx hy => row_at ok (by exists "tw mem") (by exists "tw mem") (by exists "tw mem") (by exists "tw mem") hx hy
    have hsub : F1.Sublist (cel p0 (.lst [.int d.m]) :: cel p1 (.lst (d.tk.map V.int)) :: cel p2 (.lst (d.cl.map V.int)) :: cel p3 (.lst [.int d.lt]) :: cel rw (.lst [.ref p0, .ref p1, .ref p2, .ref p3]) :: F1) := by exists "tw sub"
    have hrw : cel rw (.lst [.ref p0, .ref p1, .ref p2, .ref p3]) ∈ (cel p0 (.lst [.int d.m]) :: cel p1 (.lst (d.tk.map V.int)) :: cel p2 (.lst (d.cl.map V.int)) :: cel p3 (.lst [.int d.lt]) :: cel rw (.lst [.ref p0, .ref p1, .ref p2, .ref p3]) :: F1) := by exists "tw mem"
    generalize (cel p0 (.lst [.int d.m]) :: cel p1 (.lst (d.tk.map V.int)) :: cel p2 (.lst (d.cl.map V.int)) :: cel p3 (.lst [.int d.lt]) :: cel rw (.lst [.ref p0, .ref p1, .ref p2, .ref p3]) :: F1) = G at hS5 hrow hsub hrw
    refine x_zipM (hW _) (xs := wordsL.map V.str) (ys := [.ref p0, .ref p1, .ref p2, .ref p3]) (by exists "tw sql") ?_
    refine k_lcZ (wordsL.map V.str) [.ref p0, .ref p1, .ref p2, .ref p3] (Nat.le_refl 4) (by exists "tw wip") hS5 (fun l i H => S G ((l, .lst (((rowsT d).take i).map V.str)) :: L1) H) (fun l H hS => hS) (fun l i H _ hS => ⟨hW _, by exists "tw sql"⟩) ?_ ?_
    · clear hS5
      rintro l i x y H T hx hy hS hn
      have hS := hS.newF (o := .tup [x, y]) hn
      obtain ⟨w, q, ns, rfl, rfl, hq, hr, hw, hl, hb, _⟩ := hrow i x y hx hy
      have hrl := (List.getElem?_eq_some_iff.mp hr).1
      have hrl : i < 4 := hrl
      have hrt := List.length_take_le' i (rowsT d)
      have hr4 : (rowsT d).length = 4 := rfl
      exists "go"
      rename_i pw H5 hS6
      refine k_lcL (ns.map V.int) (by exists "tw wip") hS6 (fun l2 j H => S (cel T (.tup [.str w, .ref q]) :: G) ((l2, .lst (((ns.take j).map num).map V.str)) :: (pw, .lst [.str w]) :: (l, .lst (((rowsT d).take i).map V.str)) :: L1) H) (fun l H hS => hS) (fun l2 j H _ hS => by exists "tw sql") ?_ ?_
      · clear hS hS6
        rintro l2 j y H hy hS
        obtain ⟨n, hn2, rfl⟩ := map_get hy
        have hnb := hb n (List.mem_of_getElem? hn2)
        have hjl := (List.getElem?_eq_some_iff.mp hn2).1
        have hlt := List.length_take_le' j ns
        exists "go"
        refine x_str (by omega) ?_
        exists "go"
        rename S _ ((l2, _) :: _) _ => hS9
        have e : (ns.take j).map num ++ [num n] = (ns.take (j + 1)).map num := take_map_snoc hn2
        rw [← e, List.map_append]
        exact hS9
      · clear hS hS6
        rintro l2 H hS
        rw [List.length_map, List.take_length] at hS
        exists "go"
        refine x_joinL (ys := w :: ns.map num) (show SqL K _ _ ([V.str w] ++ (ns.map num).map V.str) by exists "tw sql") (Nat.le_trans (row_fit hw (by omega) hb) (by decide)) ?_
        exists "go"
        have e : (rowsT d).take i ++ [rowT w ns] = (rowsT d).take (i + 1) := by rw [List.take_add_one, hr]; rfl
        rw [← e, List.map_append]
        exists "tw wk"
    · clear hS5
      rintro l H hS
      have hS : S G ((l, .lst ((rowsT d).map V.str)) :: L1) H := hS
      refine x_joinL (ys := rowsT d) (by exists "tw sql") (Nat.le_trans (htext_fit ok) (by decide)) ?_
      exact k _ (hS.sub hsub (List.sublist_cons_self _ _))

theorem sc_Bench_text : FnScope ["self"] ["self"] (defScope s_Bench_text) := ⟨rfl, rfl, rfl, by decide +kernel, rfl, by decide +kernel, by decide +kernel⟩
theorem D_Bench_text (T : Hd K mg) : Dpr P w K mg base CX0 3 (bC K) "text" ["self"] (spBText K) := by
  refine mk_Dp T.c_Bench T.p_Bench_text T.f_Bench_text (fun _ _ _ _ _ _ us hl => match us, hl with | [_], _ => rfl) fun fd F => ?_
  refine F.ok sc_Bench_text (fun vs H Q E h => ?_) (fun cdv A outer s H vs Q E hr h => ?_)
  · obtain ⟨_, _, _, _, _, _, _, _, _, rfl, _⟩ := h
    rfl
  · obtain ⟨F1, L1, b, dx, x, lp, lu, ds, d, rfl, ok, hx, hm, hS, k⟩ := h
    refine ⟨_, (PSs.nox (pss_one (ps_ret (d_prop (D_Hall_text (K := K) (mg := mg) (base := base) T) pass0 (hr.mono (by first | decide | omega)) (d_fld K (pv 0)))))), ?_⟩
    refine r_start (u := [some (.ref b)]) rfl ?_
    have hcH := T.c_Hall; have hn_modulus := T.n_modulus; have hn_takes := T.n_takes; have hn_calls := T.n_calls; have hn_lateness := T.n_lateness; have hn_length := T.n_length; have hn_taken_by := T.n_taken_by; have hn_called_by := T.n_called_by
    have hcBench := T.c_Bench; have hn_Bench_now := T.n_Bench_now; have hn_Bench_past := T.n_Bench_past; have hn_Bench_undone := T.n_Bench_undone; have hn_Bench_saved := T.n_Bench_saved
    clear hr F T cdv A outer s
    exists "go"
    exact k _ (by exists "tw wk")
theorem sc_Watcher_history : FnScope ["self"] ["self"] (defScope s_Watcher_history) := ⟨rfl, rfl, rfl, by decide +kernel, rfl, by decide +kernel, by decide +kernel⟩
theorem D_Watcher_history (T : Hd K mg) : Dpr P w K mg base CX0 1 (wC K) "history" ["self"] (spHist K) := by
  refine mk_Dp T.c_Watcher T.p_Watcher_history T.f_Watcher_history (fun _ _ _ _ _ _ us hl => match us, hl with | [_], _ => rfl) fun fd F => ?_
  refine F.ok sc_Watcher_history (fun vs H Q E h => ?_) (fun cdv A outer s H vs Q E hr h => ?_)
  · obtain ⟨_, _, _, _, _, _, _, _, rfl, _⟩ := h
    rfl
  · obtain ⟨F1, L1, wx, dx, x, ls, lf, fs, rfl, h1, h2, hS, k⟩ := h
    refine ⟨_, (PSs.nox (pss_one (ps_ret (pe_callTy (c_list (K := K) rfl) rfl T.b_list bt_list (pa_cons (d_fld K (pv 0)) pa_nil))))), ?_⟩
    refine r_start (u := [some (.ref wx)]) rfl ?_
    have hcWatcher := T.c_Watcher; have hn_Watcher_hall := T.n_Watcher_hall; have hn_Watcher_starts := T.n_Watcher_starts; have hn_Watcher_facts := T.n_Watcher_facts
    clear hr F T cdv A outer s
    exists "go"
    exact k _ _ (by exists "tw wk")
theorem sc_distinct_ticks : FnScope ["hall", "length", "gain", "ticks"] ["hall"] (defScope s_distinct_ticks) := ⟨rfl, rfl, rfl, by decide +kernel, rfl, by decide +kernel, by decide +kernel⟩
theorem D_distinct_ticks (T : Hd K mg) : Df P w K mg base CX0 4 "distinct_ticks" ["hall"] (spDistinct K) := by
  refine mk_Df T.g_distinct_ticks T.f_distinct_ticks (fun _ _ _ _ _ _ us hl => match us, hl with | [_], _ => rfl) fun fd F => ?_
  refine F.ok sc_distinct_ticks (fun vs H Q E h => ?_) (fun cdv A outer s H vs Q E hr h => ?_)
  · obtain ⟨_, _, _, _, rfl, _⟩ := h
    rfl
  · obtain ⟨F1, L1, x, d, rfl, ok, hx, hd, hS, k⟩ := h
    refine ⟨_, (PSs.nox (pss_cons (ps_set (i := 1) sc_distinct_ticks.nd rfl (Or.inl rfl) (d_prop (D_Hall_period (K := K) (mg := mg) (base := base) T) pass0 (hr.mono (by first | decide | omega)) (pv 0))) (pss_cons (ps_set (i := 2) sc_distinct_ticks.nd rfl (Or.inl rfl) (d_sub (d_meth (D_Hall_called (K := K) (mg := mg) (base := base) T) pass0 (hr.mono (by first | decide | omega)) (pv 0) (pa_cons (d_mul K pe_int (pv 1)) pa_nil)) (d_meth (D_Hall_called (K := K) (mg := mg) (base := base) T) pass0 (hr.mono (by first | decide | omega)) (pv 0) (pa_cons (pv 1) pa_nil)))) (pss_cons (ps_set (i := 3) sc_distinct_ticks.nd rfl (Or.inl rfl) (d_add K (pv 1) (d_mul K (pv 1) (d_div (d_fld K (pv 0)) (d_call (D_greatest_common (K := K) (mg := mg) (base := base) T) pass0 (hr.mono (by first | decide | omega)) (pa_cons (d_fld K (pv 0)) (pa_cons (pv 2) pa_nil))))))) (pss_cons (ps_if (q_cmp o_gt (pv 3) (d_gint T.i_MAX_TICKS)) (pss_one ps_never) pss_nil) (pss_one (ps_ret (pv 3)))))))), ?_⟩
    refine r_start (u := [some (.ref x), none, none, none]) rfl ?_
    have hcH := T.c_Hall; have hn_modulus := T.n_modulus; have hn_takes := T.n_takes; have hn_calls := T.n_calls; have hn_lateness := T.n_lateness; have hn_length := T.n_length; have hn_taken_by := T.n_taken_by; have hn_called_by := T.n_called_by
    clear hr F T cdv A outer s
    have p0 := HD.per_pos ok
    have p1 := HD.per_le ok
    have m0 := ok.m0
    have m1 := ok.m1
    have g0 := HD.gain_nonneg ok
    have g1 := HD.gain_bd ok
    have ge := HD.gain_eq ok
    exists "go"
    refine c_gcdI (by assumption) (by omega) (by rw [show (2 * (d.per : Int)).toNat = 2 * d.per by omega, show ((d.per : Nat) : Int).toNat = d.per by omega]; omega) fun H hS => ?_
    have eg : (d.C (2 * (d.per : Int)).toNat - d.C ((d.per : Nat) : Int).toNat).toNat = d.gain.toNat := by
      rw [show (2 * (d.per : Int)).toNat = 2 * d.per by omega, show ((d.per : Nat) : Int).toNat = d.per by omega, ge]
    rw [eg]
    have gp := HD.gcd_pos ok
    have gl := Nat.gcd_le_left d.gain.toNat (show 0 < d.m.toNat by omega)
    have q : d.m / ((Nat.gcd d.m.toNat d.gain.toNat : Nat) : Int) = ((d.rnd : Nat) : Int) := by
      unfold HD.rnd
      rw [Int.natCast_ediv, Int.toNat_of_nonneg (by omega)]
    have rl := HD.rnd_le ok
    have hdis : (d.per : Int) + d.per * ((d.rnd : Nat) : Int) = ((d.dis : Nat) : Int) := by
      unfold HD.dis HD.dper
      rw [Int.natCast_add, Int.natCast_mul]
    exists "gq"
    rw [q, hdis]
    exists "go"
    exact k _ (by exists "tw wk")
theorem sc_Watcher_init : FnScope ["self", "hall"] ["self", "hall"] (defScope s_Watcher_init) := ⟨rfl, rfl, rfl, by decide +kernel, rfl, by decide +kernel, by decide +kernel⟩
theorem D_Watcher_init (T : Hd K mg) : Dk P w K mg base CX0 5 (wC K) "Watcher" ["self", "hall"] (spWInit K) := by
  refine mk_Dk T.g_Watcher T.k_Watcher T.f_Watcher_init (fun _ _ _ _ _ _ us hl => match us, hl with | [_, _], _ => rfl) fun fd F => ?_
  refine F.ok sc_Watcher_init (fun vs H Q E h => ?_) (fun cdv A outer s H vs Q E hr h => ?_)
  · obtain ⟨_, _, _, _, _, _, _, rfl, _⟩ := h
    rfl
  · obtain ⟨F1, L0, L1, wx, dx, x, d, rfl, ok, hx, hd, hp, hS, k⟩ := h
    refine ⟨_, (PSs.nox (pss_cons (d_sfld K (pv 0) (pv 1)) (pss_cons (d_sfld K (pv 0) (pe_listRg rfl rfl T.b_list (prg_1 rfl T.b_range (d_call (D_distinct_ticks (K := K) (mg := mg) (base := base) T) pass0 (hr.mono (by first | decide | omega)) (pa_cons (pv 1) pa_nil))))) (pss_one (d_sfld K (pv 0) (pe_lst pa_nil)))))), ?_⟩
    refine r_start (u := [some (.ref wx), some (.ref x)]) rfl ?_
    have hcH := T.c_Hall; have hn_modulus := T.n_modulus; have hn_takes := T.n_takes; have hn_calls := T.n_calls; have hn_lateness := T.n_lateness; have hn_length := T.n_length; have hn_taken_by := T.n_taken_by; have hn_called_by := T.n_called_by
    have hcWatcher := T.c_Watcher; have hn_Watcher_hall := T.n_Watcher_hall; have hn_Watcher_starts := T.n_Watcher_starts; have hn_Watcher_facts := T.n_Watcher_facts
    clear hr F T cdv A outer s
    have hS := hS.pull hp
    exists "go"
    rename_i q _ _ _ _ p H3 hS3 H4 hS4
    have e : ap 0 1 (d.dis : Int).toNat = iv 0 d.dis := by rw [show (d.dis : Int).toNat = ((d.dis : Int) - 0).toNat by omega]
    rw [e] at hS4
    exact k q p _ ((hS4.pull (q := wCell K wx dx x q p) (.tail (.tail .head))).perm ((List.Perm.swap _ _ _).cons _))
theorem sc_check_digits : FnScope ["hall", "digits"] ["hall", "digits"] (defScope s_check_digits) := ⟨rfl, rfl, rfl, by decide +kernel, rfl, by decide +kernel, by decide +kernel⟩
theorem D_check_digits (T : Hd K mg) : Df P w K mg base CX0 2 "check_digits" ["hall", "digits"] (spDigits K) := by
  refine mk_Df T.g_check_digits T.f_check_digits (fun _ _ _ _ _ _ us hl => match us, hl with | [_, _], _ => rfl) fun fd F => ?_
  refine F.ok sc_check_digits (fun vs H Q E h => ?_) (fun cdv A outer s H vs Q E hr h => ?_)
  · obtain ⟨_, _, _, _, _, rfl, _⟩ := h
    rfl
  · obtain ⟨F1, L1, x, d, n, rfl, ok, hx, n0, n1, hS, k⟩ := h
    refine ⟨_, (PSs.nox (pss_one (ps_if (pt_not (pt_val (d_call (D_is_int_in (K := K) (mg := mg) (base := base) T) pass0 (hr.mono (by first | decide | omega)) (pa_cons (pv 1) (pa_cons pe_int (pa_cons (d_sub (d_fld K (pv 0)) pe_int) pa_nil)))))) (pss_one ps_never) pss_nil))), ?_⟩
    refine r_start (u := [some (.ref x), some (.int n)]) rfl ?_
    have hcH := T.c_Hall; have hn_modulus := T.n_modulus; have hn_takes := T.n_takes; have hn_calls := T.n_calls; have hn_lateness := T.n_lateness; have hn_length := T.n_length; have hn_taken_by := T.n_taken_by; have hn_called_by := T.n_called_by
    clear hr F T cdv A outer s
    exists "go"
    all_goals exact k _ (by exists "tw wk")
theorem sc_shown : FnScope ["hall", "tick", "called"] ["hall", "tick"] (defScope s_shown) := ⟨rfl, rfl, rfl, by decide +kernel, rfl, by decide +kernel, by decide +kernel⟩
theorem D_shown (T : Hd K mg) : Df P w K mg base CX0 2 "shown" ["hall", "tick"] (spShown K) := by
  refine mk_Df T.g_shown T.f_shown (fun _ _ _ _ _ _ us hl => match us, hl with | [_, _], _ => rfl) fun fd F => ?_
  refine F.ok sc_shown (fun vs H Q E h => ?_) (fun cdv A outer s H vs Q E hr h => ?_)
  · obtain ⟨_, _, _, _, _, rfl, _⟩ := h
    rfl
  · obtain ⟨F1, L1, x, d, t, rfl, ok, hx, hS, k⟩ := h
    refine ⟨_, (PSs.nox (pss_cons (ps_set (i := 2) sc_shown.nd rfl (Or.inl rfl) (d_meth (D_Hall_called (K := K) (mg := mg) (base := base) T) pass0 (hr.mono (by first | decide | omega)) (pv 0) (pa_cons (d_add K (pv 1) pe_int) pa_nil))) (pss_one (ps_ret (pe_ifExp (q_cmp o_gt (pv 2) pe_int) (d_mod (d_sub (pv 2) pe_int) (d_fld K (pv 0))) pe_non))))), ?_⟩
    refine r_start (u := [some (.ref x), some (.int t), none]) rfl ?_
    have hcH := T.c_Hall; have hn_modulus := T.n_modulus; have hn_takes := T.n_takes; have hn_calls := T.n_calls; have hn_lateness := T.n_lateness; have hn_length := T.n_length; have hn_taken_by := T.n_taken_by; have hn_called_by := T.n_called_by
    clear hr F T cdv A outer s
    have m0 := ok.m0
    exists "go"
    · rename_i hc
      have e : Shown d t = .int ((d.C (t + 1).toNat - 1) % d.m) := if_pos hc
      rw [← e]
      exact k _ (by exists "tw wk")
    · rename_i hc
      have e : Shown d t = .non := if_neg hc
      rw [← e]
      exact k _ (by exists "tw wk")
theorem sc_Watcher_see : FnScope ["self", "digits", "seen", "starts", "start"] ["self", "digits"] (defScope s_Watcher_see) := ⟨rfl, rfl, rfl, by decide +kernel, rfl, by decide +kernel, by decide +kernel⟩
theorem D_Watcher_see (T : Hd K mg) : Dm P w K mg base CX0 4 (wC K) "see" ["self", "digits"] (spSee K) := by
  refine mk_Dm T.c_Watcher T.m_Watcher_see T.f_Watcher_see (fun _ _ _ _ _ _ us hl => match us, hl with | [_, _], _ => rfl) fun fd F => ?_
  refine F.ok sc_Watcher_see (fun vs H Q E h => ?_) (fun cdv A outer s H vs Q E hr h => ?_)
  · obtain ⟨_, _, _, _, _, _, _, _, _, _, _, _, _, _, rfl, _⟩ := h
    rfl
  · obtain ⟨F1, L0, L1, L2, L3, wx, dx, x, ls, lf, d, v, st, fs, rfl, ok, hx, hv, hn, h1, h2, h3, h4, p1, p2, p3, hS, k⟩ := h
    refine ⟨_, (PSs.nox (pss_cons (ps_if (q_cmp o_isn (pv 1) pe_non) (pss_one (ps_expr (d_call (D_check_digits (K := K) (mg := mg) (base := base) T) pass0 (hr.mono (by first | decide | omega)) (pa_cons (d_fld K (pv 0)) (pa_cons (pv 1) pa_nil))))) pss_nil) (pss_cons (ps_set (i := 2) sc_Watcher_see.nd rfl (Or.inr rfl) (pe_callB (c_len (K := K) rfl) rfl T.b_len bt_len (pa_cons (d_fld K (pv 0)) pa_nil))) (pss_cons (ps_setLc (i := 3) rfl sc_Watcher_see.nd rfl rfl (sw_true rfl rfl rfl (by decide +kernel)) (d_ilist K (d_fld K (pv 0))) (blkOk_by (own := [("start", 4)]) (by show blkC ["self", "digits", "seen", "starts", "start"] (defScope s_Watcher_see) _ _ = true; decide +kernel)) (fun _ _ _ _ _ => (pg_name (i := 4) sc_Watcher_see.nd rfl (by first | exact Or.inl rfl | exact Or.inr rfl))) (fun _ _ _ _ _ => (pts_one (q_cmp (o_eq K hr.units) (d_call (D_shown (K := K) (mg := mg) (base := base) T) pass0 (hr.mono (by first | decide | omega)) (pa_cons (d_fld K (pv 0)) (pa_cons (d_add K (pv 4) (pv 2)) pa_nil))) (pv 1)))) (fun _ _ _ _ _ => (pv 4))) (pss_cons (ps_if (q_cmp (o_eq K hr.units) (pv 3) (pe_lst pa_nil)) (pss_one ps_never) pss_nil) (pss_cons (d_sfld K (pv 0) (pv 3)) (pss_cons (ps_expr (d_bm K PySem.F.plainAttrs_list PySem.F.slot_list_append PySem.F.type_list_append mt_append (d_fld K (pv 0)) (pa_cons (pv 1) pa_nil))) (pss_one (ps_ret (pe_callB (c_len (K := K) rfl) rfl T.b_len bt_len (pa_cons (pv 3) pa_nil))))))))))), ?_⟩
    refine r_start (u := [some (.ref wx), some v, none, none, none]) rfl ?_
    have hcH := T.c_Hall; have hn_modulus := T.n_modulus; have hn_takes := T.n_takes; have hn_calls := T.n_calls; have hn_lateness := T.n_lateness; have hn_length := T.n_length; have hn_taken_by := T.n_taken_by; have hn_called_by := T.n_called_by
    have hcWatcher := T.c_Watcher; have hn_Watcher_hall := T.n_Watcher_hall; have hn_Watcher_starts := T.n_Watcher_starts; have hn_Watcher_facts := T.n_Watcher_facts
    clear hr F T cdv A outer s
    have hS : S F1 (wCell K wx dx x ls lf :: (ls, .lst (st.map V.int)) :: (lf, .lst fs) :: L3) H := by
      have a := hS.perm ((p1.perm.trans (p2.perm.cons _)).trans ((p3.perm.cons _).cons _))
      exact a
    refine r_seq ?_
    refine cut_nx (fun σ H => σ = [some (.ref wx), some v, none, none, none] ∧ S F1 (wCell K wx dx x ls lf :: (ls, .lst (st.map V.int)) :: (lf, .lst fs) :: L3) H) (fun nx' hk => ?_) ?_
    · rcases hv with rfl | ⟨n, rfl⟩
      · exists "go"
        exact hk _ _ ⟨rfl, by exists "tw wk"⟩
      · have hb := hn n rfl
        exists "go"
        exact hk _ _ ⟨rfl, by exists "tw wk"⟩
    · rintro σ H ⟨rfl, hS⟩
      exists "go"
      refine k_lcL (st.map V.int) (by exists "tw wip") hS (fun l i H => S F1 ((l, .lst (((st.take i).filter fun s => decide (Shown d (s + fs.length) = v)).map V.int)) :: wCell K wx dx x ls lf :: (ls, .lst (st.map V.int)) :: (lf, .lst fs) :: L3) H) (fun l H hS => hS) (fun l i H _ hS => by exists "tw sql") ?_ ?_
      · clear hS
        rintro l i y H hy hS
        obtain ⟨s, hs, rfl⟩ := map_get hy
        have hl := List.length_filter_le (fun s => decide (Shown d (s + fs.length) = v)) (st.take i)
        have hl2 := List.length_take_le' i st
        exists "go"
        refine x_eqV (scal_ni ni_shown hv) ?_
        exists "go"
        · rename S _ ((l, _) :: _) _ => hS9
          rw [take_yes hs (decide_eq_true (by assumption)), List.map_append]
          exact hS9
        · rw [take_no hs (by rw [decide_eq_false (by assumption)]; decide)]
          exists "tw wk"
      · clear hS
        rintro l H hS
        rw [List.length_map, List.take_length] at hS
        have hS : S F1 ((l, .lst ((flS d st fs.length v).map V.int)) :: wCell K wx dx x ls lf :: (ls, .lst (st.map V.int)) :: (lf, .lst fs) :: L3) H := hS
        exists "go"
        rename_i H9 hS9
        have hS9 : S F1 ((l, .lst ((flS d st fs.length v).map V.int)) :: wCell K wx dx x l lf :: (ls, .lst (st.map V.int)) :: (lf, .lst (fs ++ [v])) :: L3) H9 := hS9.dropL
        exact k l _ ((hS9.pull (q := wCell K wx dx x l lf) (.tail .head)).sub (by exists "tw sub") (by exists "tw sub"))
theorem sc_check_tick : FnScope ["tick"] ["tick"] (defScope s_check_tick) := ⟨rfl, rfl, rfl, by decide +kernel, rfl, by decide +kernel, by decide +kernel⟩
theorem D_check_tick (T : Hd K mg) : Df P w K mg base CX0 2 "check_tick" ["tick"] spCheckTick := by
  refine mk_Df T.g_check_tick T.f_check_tick (fun _ _ _ _ _ _ us hl => match us, hl with | [_], _ => rfl) fun fd F => ?_
  refine F.ok sc_check_tick (fun vs H Q E h => ?_) (fun cdv A outer s H vs Q E hr h => ?_)
  · obtain ⟨_, _, _, rfl, _⟩ := h
    rfl
  · obtain ⟨F1, L1, t, rfl, h0, h1, hS, k⟩ := h
    refine ⟨_, (PSs.nox (pss_one (ps_if (pt_not (pt_val (d_call (D_is_int_in (K := K) (mg := mg) (base := base) T) pass0 (hr.mono (by first | decide | omega)) (pa_cons (pv 0) (pa_cons pe_int (pa_cons (d_gint T.i_MAX_TICK) pa_nil)))))) (pss_one ps_never) pss_nil))), ?_⟩
    refine r_start (u := [some (.int t)]) rfl ?_
    clear hr F T cdv A outer s
    exists "go"
    exact k _ (by assumption)
theorem sc_display : FnScope ["hall", "tick"] ["hall", "tick"] (defScope s_display) := ⟨rfl, rfl, rfl, by decide +kernel, rfl, by decide +kernel, by decide +kernel⟩
theorem D_display (T : Hd K mg) : Df P w K mg base CX0 3 "display" ["hall", "tick"] (spDisplay K) := by
  refine mk_Df T.g_display T.f_display (fun _ _ _ _ _ _ us hl => match us, hl with | [_, _], _ => rfl) fun fd F => ?_
  refine F.ok sc_display (fun vs H Q E h => ?_) (fun cdv A outer s H vs Q E hr h => ?_)
  · obtain ⟨_, _, _, _, _, rfl, _⟩ := h
    rfl
  · obtain ⟨F1, L1, x, d, t, rfl, ok, hx, h0, h1, hS, k⟩ := h
    refine ⟨_, (PSs.nox (pss_cons (ps_expr (d_call (D_check_tick (K := K) (mg := mg) (base := base) T) pass0 (hr.mono (by first | decide | omega)) (pa_cons (pv 1) pa_nil))) (pss_one (ps_ret (d_call (D_shown (K := K) (mg := mg) (base := base) T) pass0 (hr.mono (by first | decide | omega)) (pa_cons (pv 0) (pa_cons (pv 1) pa_nil))))))), ?_⟩
    refine r_start (u := [some (.ref x), some (.int t)]) rfl ?_
    clear hr F T cdv A outer s
    exists "go"
    exact k _ (by exists "tw wk")
theorem sc_law_equal : FnScope ["_law_actual", "_law_expected", "_law_k"] ["_law_actual", "_law_expected"] (defScope s_law_equal) := ⟨rfl, rfl, rfl, by decide +kernel, rfl, by decide +kernel, by decide +kernel⟩
theorem eq_zero (T : Hd K mg) : Df P w K mg base CX0 1 "_law_equal" ["_law_actual", "_law_expected"] (spEq K 0) := by
  refine mk_Df T.g_law_equal T.f_law_equal (fun _ _ _ _ _ _ us hl => match us, hl with | [_, _], _ => rfl) fun fd F => ?_
  refine F.ok sc_law_equal (fun vs H Q E h => ?_) (fun cdv A outer s H vs Q E hr h => ?_)
  · obtain ⟨_, _, rfl, _⟩ := h
    rfl
  · obtain ⟨x, y, rfl, e, k⟩ := h
    refine ⟨_, (PSs.nox (pss_cons (ps_if (q_cmp o_is (pv 1) pe_non) (pss_one (ps_ret (d_cmp o_is (pv 0) pe_non))) pss_nil) (pss_cons (ps_if (pt_val (pe_callB (c_isi (K := K) rfl) rfl T.b_isinstance bt_isinstance (pa_cons (pv 1) (pa_cons (d_ty rfl T.b_bool bt_bool) pa_nil)))) (pss_one (ps_ret (pe_and (pe_callB (c_isi (K := K) rfl) rfl T.b_isinstance bt_isinstance (pa_cons (pv 0) (pa_cons (d_ty rfl T.b_bool bt_bool) pa_nil))) (pe_one (d_cmp (o_eq K hr.units) (pv 0) (pv 1)))))) pss_nil) (pss_cons (ps_if (pt_val (pe_callB (c_isi (K := K) rfl) rfl T.b_isinstance bt_isinstance (pa_cons (pv 1) (pa_cons (d_ty rfl T.b_int bt_int) pa_nil)))) (pss_one (ps_ret (pe_and (pe_callB (c_isi (K := K) rfl) rfl T.b_isinstance bt_isinstance (pa_cons (pv 0) (pa_cons (d_ty rfl T.b_int bt_int) pa_nil))) (pe_and (pe_not (pe_callB (c_isi (K := K) rfl) rfl T.b_isinstance bt_isinstance (pa_cons (pv 0) (pa_cons (d_ty rfl T.b_bool bt_bool) pa_nil)))) (pe_one (d_cmp (o_eq K hr.units) (pv 0) (pv 1))))))) pss_nil) (pss_cons (ps_if (pt_val (pe_callB (c_isi (K := K) rfl) rfl T.b_isinstance bt_isinstance (pa_cons (pv 1) (pa_cons (d_ty rfl T.b_str bt_str) pa_nil)))) (pss_one (ps_ret (pe_and (pe_callB (c_isi (K := K) rfl) rfl T.b_isinstance bt_isinstance (pa_cons (pv 0) (pa_cons (d_ty rfl T.b_str bt_str) pa_nil))) (pe_one (d_cmp (o_eq K hr.units) (pv 0) (pv 1)))))) pss_nil) (pss_cons ps_never (pss_cons ps_never (pss_cons ps_never (pss_one ps_never))))))))), ?_⟩
    refine r_start (u := [some x, some y, none]) rfl ?_
    clear hr F T cdv A outer s
    have k0 := k H (Same.refl H)
    have e : Atom x y := e
    cases e with
    | non =>
      exists "go"
      exact k0
    | bl =>
      exists "go"
      exact k0
    | int hij =>
      subst hij
      exists "go"
      try rw [decide_eq_true rfl]
      exact k0
    | str =>
      exists "go"
      try rw [decide_eq_true rfl]
      exact k0
theorem eq_step (T : Hd K mg) (n : Nat) (R : Df P w K mg base CX0 (n + 1) "_law_equal" ["_law_actual", "_law_expected"] (spEq K n)) : Df P w K mg base CX0 (n + 2) "_law_equal" ["_law_actual", "_law_expected"] (spEq K (n + 1)) := by
  refine mk_Df T.g_law_equal T.f_law_equal (fun _ _ _ _ _ _ us hl => match us, hl with | [_, _], _ => rfl) fun fd F => ?_
  refine F.ok sc_law_equal (fun vs H Q E h => ?_) (fun cdv A outer s H vs Q E hr h => ?_)
  · obtain ⟨_, _, rfl, _⟩ := h
    rfl
  · obtain ⟨x, y, rfl, e, k⟩ := h
    refine ⟨_, (PSs.nox (pss_cons (ps_if (q_cmp o_is (pv 1) pe_non) (pss_one (ps_ret (d_cmp o_is (pv 0) pe_non))) pss_nil) (pss_cons (ps_if (pt_val (pe_callB (c_isi (K := K) rfl) rfl T.b_isinstance bt_isinstance (pa_cons (pv 1) (pa_cons (d_ty rfl T.b_bool bt_bool) pa_nil)))) (pss_one (ps_ret (pe_and (pe_callB (c_isi (K := K) rfl) rfl T.b_isinstance bt_isinstance (pa_cons (pv 0) (pa_cons (d_ty rfl T.b_bool bt_bool) pa_nil))) (pe_one (d_cmp (o_eq K hr.units) (pv 0) (pv 1)))))) pss_nil) (pss_cons (ps_if (pt_val (pe_callB (c_isi (K := K) rfl) rfl T.b_isinstance bt_isinstance (pa_cons (pv 1) (pa_cons (d_ty rfl T.b_int bt_int) pa_nil)))) (pss_one (ps_ret (pe_and (pe_callB (c_isi (K := K) rfl) rfl T.b_isinstance bt_isinstance (pa_cons (pv 0) (pa_cons (d_ty rfl T.b_int bt_int) pa_nil))) (pe_and (pe_not (pe_callB (c_isi (K := K) rfl) rfl T.b_isinstance bt_isinstance (pa_cons (pv 0) (pa_cons (d_ty rfl T.b_bool bt_bool) pa_nil)))) (pe_one (d_cmp (o_eq K hr.units) (pv 0) (pv 1))))))) pss_nil) (pss_cons (ps_if (pt_val (pe_callB (c_isi (K := K) rfl) rfl T.b_isinstance bt_isinstance (pa_cons (pv 1) (pa_cons (d_ty rfl T.b_str bt_str) pa_nil)))) (pss_one (ps_ret (pe_and (pe_callB (c_isi (K := K) rfl) rfl T.b_isinstance bt_isinstance (pa_cons (pv 0) (pa_cons (d_ty rfl T.b_str bt_str) pa_nil))) (pe_one (d_cmp (o_eq K hr.units) (pv 0) (pv 1)))))) pss_nil) (pss_cons (ps_if (q_cmp (o_ne K hr.units) (pe_callB (c_isi (K := K) rfl) rfl T.b_isinstance bt_isinstance (pa_cons (pv 1) (pa_cons (d_ty rfl T.b_tuple bt_tuple) pa_nil))) (pe_callB (c_isi (K := K) rfl) rfl T.b_isinstance bt_isinstance (pa_cons (pv 0) (pa_cons (d_ty rfl T.b_tuple bt_tuple) pa_nil)))) (pss_one (ps_ret d_bool)) pss_nil) (pss_cons (ps_if (q_cmp (o_ne K hr.units) (pe_callB (c_isi (K := K) rfl) rfl T.b_isinstance bt_isinstance (pa_cons (pv 1) (pa_cons (d_ty rfl T.b_list bt_list) pa_nil))) (pe_callB (c_isi (K := K) rfl) rfl T.b_isinstance bt_isinstance (pa_cons (pv 0) (pa_cons (d_ty rfl T.b_list bt_list) pa_nil)))) (pss_one (ps_ret d_bool)) pss_nil) (pss_cons (ps_if (q_cmp (o_ne K hr.units) (pe_callB (c_len (K := K) rfl) rfl T.b_len bt_len (pa_cons (pv 0) pa_nil)) (pe_callB (c_len (K := K) rfl) rfl T.b_len bt_len (pa_cons (pv 1) pa_nil))) (pss_one (ps_ret d_bool)) pss_nil) (pss_one (ps_ret (pe_callB (c_all (K := K) rfl rfl) rfl T.b_all bt_all (pa_cons (pe_lc (own := [("_law_k", 2)]) rfl sc_law_equal.nd (pi_range1 rfl T.b_range (pa_cons (pe_callB (c_len (K := K) rfl) rfl T.b_len bt_len (pa_cons (pv 1) pa_nil)) pa_nil)) (blkOk_by (own := [("_law_k", 2)]) (by show blkC ["_law_actual", "_law_expected", "_law_k"] (defScope s_law_equal) _ _ = true; decide +kernel)) (fun _ _ _ _ _ => (pg_name (i := 2) sc_law_equal.nd rfl (by first | exact Or.inl rfl | exact Or.inr rfl))) (fun _ _ _ _ _ => pts_nil) (fun _ _ _ _ _ => (d_call R pass0 (hr.mono (by first | decide | omega)) (pa_cons (d_ix K (pv 0) (pv 2) (fun _ _ => rfl)) (pa_cons (d_ix K (pv 1) (pv 2) (fun _ _ => rfl)) pa_nil))))) pa_nil)))))))))))), ?_⟩
    refine r_start (u := [some x, some y, none]) rfl ?_
    clear hr F T cdv A outer s
    rcases e with e | ⟨p, q, xs, ys, rfl, rfl, hl, hs, hf⟩
    · have k0 := k H (Same.refl H)
      clear k R
      cases e with
      | non =>
        exists "go"
        exact k0
      | bl =>
        exists "go"
        exact k0
      | int hij =>
        subst hij
        exists "go"
        try rw [decide_eq_true rfl]
        exact k0
      | str =>
        exists "go"
        try rw [decide_eq_true rfl]
        exact k0
    · have hle := hf.len
      rcases hs with ⟨h1, h2⟩ | ⟨h1, h2⟩
      · have hS := ((s_all H).put_ (tuF K p xs) (fun E e => sqT_mono (e (allP H) List.mem_cons_self) h1)).put_ (tuF K q ys) (fun E e => sqT_mono (e (allP H) (List.mem_cons_of_mem _ List.mem_cons_self)) h2)
        exists "go"
        refine k_lcR (by exists "tw wip") hS (fun l i H' => S [tuF K q ys, tuF K p xs, allP H] [(l, .lst ((List.replicate i true).map V.bl))] H') ?_ ?_ ?_
        · intro l H hS
          exact hS
        · rintro l i H' hi hS
          obtain ⟨x', y', g1, g2, r⟩ := hf.get i (by omega)
          exists "go"
          refine x_ixT (xs := xs) (by exists "tw sqt") (at0 g1) ?_
          exists "go"
          refine x_ixT (xs := ys) (by exists "tw sqt") (at0 g2) ?_
          exists "go"
          refine c_equal hS (eq2_mono (hS.sm (by exists "tw mem")) r) fun H2 hS2 => ?_
          exists "go"
          rw [List.replicate_succ', List.map_append]
          assumption
        · rintro l H' hS
          exists "go"
          refine x_allT (by exists "tw sql") ?_
          exists "go"
          exact k _ (hS.sm (by exists "tw mem"))
      · have hS := ((s_all H).put_ (liF K p xs) (fun E e => sqL_mono (e (allP H) List.mem_cons_self) h1)).put_ (liF K q ys) (fun E e => sqL_mono (e (allP H) (List.mem_cons_of_mem _ List.mem_cons_self)) h2)
        exists "go"
        refine k_lcR (by exists "tw wip") hS (fun l i H' => S [liF K q ys, liF K p xs, allP H] [(l, .lst ((List.replicate i true).map V.bl))] H') ?_ ?_ ?_
        · intro l H hS
          exact hS
        · rintro l i H' hi hS
          obtain ⟨x', y', g1, g2, r⟩ := hf.get i (by omega)
          exists "go"
          refine x_ixL (xs := xs) (by exists "tw sql") (at0 g1) ?_
          exists "go"
          refine x_ixL (xs := ys) (by exists "tw sql") (at0 g2) ?_
          exists "go"
          refine c_equal hS (eq2_mono (hS.sm (by exists "tw mem")) r) fun H2 hS2 => ?_
          exists "go"
          rw [List.replicate_succ', List.map_append]
          assumption
        · rintro l H' hS
          exists "go"
          refine x_allT (by exists "tw sql") ?_
          exists "go"
          exact k _ (hS.sm (by exists "tw mem"))
theorem D_law_equal (T : Hd K mg) : Df P w K mg base CX0 6 "_law_equal" ["_law_actual", "_law_expected"] (spEq K 5) := eq_step T _ (eq_step T _ (eq_step T _ (eq_step T _ (eq_step T _ (eq_zero T)))))
theorem sc_law_hall : FnScope ["_law_parts"] ["_law_parts"] (defScope s_law_hall) := ⟨rfl, rfl, rfl, by decide +kernel, rfl, by decide +kernel, by decide +kernel⟩
theorem D_law_hall (T : Hd K mg) : Df P w K mg base CX0 5 "_law_hall" ["_law_parts"] (spHall K) := by
  refine mk_Df T.g_law_hall T.f_law_hall (fun _ _ _ _ _ _ us hl => match us, hl with | [_], _ => rfl) fun fd F => ?_
  refine F.ok sc_law_hall (fun vs H Q E h => ?_) (fun cdv A outer s H vs Q E hr h => ?_)
  · obtain ⟨_, _, _, _, rfl, _⟩ := h
    rfl
  · obtain ⟨F1, L1, p, h, rfl, ok, hp, hS, k⟩ := h
    refine ⟨_, (PSs.nox (pss_one (ps_ret (d_make (D_Hall_init (K := K) (mg := mg) (base := base) T) pass0 (hr.mono (by first | decide | omega)) (pa_cons (d_ix K (pv 0) pe_int (fun _ _ => rfl)) (pa_cons (d_ix K (pv 0) pe_int (fun _ _ => rfl)) (pa_cons (d_ix K (pv 0) pe_int (fun _ _ => rfl)) (pa_cons (d_ix K (pv 0) pe_int (fun _ _ => rfl)) pa_nil)))))))), ?_⟩
    refine r_start (u := [some (.ref p)]) rfl ?_
    clear hr F T cdv A outer s
    exists "go"
    exact k _ _ ((by assumption : S (hallP K _ _ :: _) _ _).mono (fun f hf => by
        rcases List.mem_cons.mp hf with rfl | hf
        · exact List.mem_cons_self
        · exists "tw mem") (by exists "tw sub"))
theorem sc_law_random : FnScope ["_law_script", "_law_salt", "_law_seed", "_law_cell"] ["_law_script", "_law_salt"] (defScope s_law_random) := ⟨rfl, rfl, rfl, by decide +kernel, rfl, by decide +kernel, by decide +kernel⟩
theorem D_law_random (T : Hd K mg) : Df P w K mg base CX0 1 "_law_random" ["_law_script", "_law_salt"] (spRandom K) := by
  refine mk_Df T.g_law_random T.f_law_random (fun _ _ _ _ _ _ us hl => match us, hl with | [_, _], _ => rfl) fun fd F => ?_
  refine F.ok sc_law_random (fun vs H Q E h => ?_) (fun cdv A outer s H vs Q E hr h => ?_)
  · obtain ⟨_, _, _, _, _, rfl, _⟩ := h
    rfl
  · obtain ⟨F1, L1, a, ns, salt, rfl, h63, s0, s1, ha, hS, k⟩ := h
    refine ⟨_, (PSs.nox (pss_cons (ps_set (i := 2) sc_law_random.nd rfl (Or.inl rfl) (pv 1)) (pss_cons (ps_for PassesOwn.never rfl (d_ilist K (pv 0)) (pg_name (i := 3) sc_law_random.nd rfl (Or.inl rfl)) (pss_one (ps_set (i := 2) sc_law_random.nd rfl (Or.inl rfl) (d_mod (d_add K (d_mul K (pv 2) pe_int) (pe_callB c_abs rfl T.b_abs bt_abs (pa_cons (pv 3) pa_nil))) pe_int)))) (pss_one (ps_ret (d_add K (pe_lst (pa_cons (pv 2) (pa_cons pe_int pa_nil))) (pe_lc (own := [("_law_cell", 3)]) rfl sc_law_random.nd (d_ilist K (pv 0)) (blkOk_by (own := [("_law_cell", 3)]) (by show blkC ["_law_script", "_law_salt", "_law_seed", "_law_cell"] (defScope s_law_random) _ _ = true; decide +kernel)) (fun _ _ _ _ _ => (pg_name (i := 3) sc_law_random.nd rfl (by first | exact Or.inl rfl | exact Or.inr rfl))) (fun _ _ _ _ _ => (pts_one (q_cmp o_ge (pv 3) (d_pow pe_int pe_int)))) (fun _ _ _ _ _ => (pv 3))))))))), ?_⟩
    refine r_start (u := [some (.ref a), some (.int salt), none, none]) rfl ?_
    clear hr F T cdv A outer s
    exists "go"
    refine k_list (ns.map V.int) (fun i σ H => ∃ sd v, σ = [some (.ref a), some (.int salt), some (.int sd), v] ∧ 0 ≤ sd ∧ sd < 2147483647 ∧ S F1 L1 H) ⟨_, _, rfl, s0, s1, hS⟩ ?_ ?_ ?_
    · rintro i σ H hi ⟨sd, v, rfl, b0, b1, hS⟩
      exists "tw sql"
    · rintro i y σ H hi ⟨sd, v, rfl, b0, b1, hS⟩
      rw [List.getElem?_map] at hi
      obtain ⟨z, hz, rfl⟩ := Option.map_eq_some_iff.mp hi
      exists "go"
      exact ⟨_, _, rfl, by omega, by omega, by assumption⟩
    · rintro σ H ⟨sd, v, rfl, b0, b1, hS⟩
      exists "go"
      rename_i l0 H2 hS2
      refine k_lcL (ns.map V.int) (by exists "tw wip") hS2 (fun l i H => ∃ bs : List Int, bs.length ≤ i ∧ (∀ b ∈ bs, 0 ≤ b) ∧ S F1 ((l, .lst (bs.map V.int)) :: (l0, .lst [.int sd, .int 0]) :: L1) H) ?_ ?_ ?_ ?_
      · intro l H hS
        exact ⟨[], Nat.le_refl _, (fun _ z => nomatch z), hS⟩
      · rintro l i H hi ⟨bs, _, _, hS⟩
        exists "tw sql"
      · rintro l i y H hi ⟨bs, n0, n1, hS⟩
        have hi2 := (List.getElem?_eq_some_iff.mp hi).1
        rw [List.length_map] at hi2
        rw [List.getElem?_map] at hi
        obtain ⟨z, hz, rfl⟩ := Option.map_eq_some_iff.mp hi
        exists "go"
        · refine ⟨bs ++ [z], by simp; omega, fun b hb => ?_, ?_⟩
          · rcases List.mem_append.mp hb with hb | hb
            · exact n1 b hb
            · rw [List.mem_singleton.mp hb]; omega
          · rw [List.map_append]
            assumption
        · exact ⟨bs, by omega, n1, hS⟩
      · rintro l H ⟨bs, n0, n1, hS⟩
        rw [List.length_map] at n0
        exists "go"
        exact k _ _ _ ⟨sd, 0, bs, rfl, b0, b1, Int.le_refl _, n1, by omega⟩ (by exists "tw wk")

theorem sc_Hall_events : GScope ["self", "start", "end", "tick", "number"] ["self", "start", "end"] (defScope s_Hall_events) := ⟨rfl, rfl, rfl, by decide +kernel, rfl, by decide +kernel, by decide +kernel⟩
theorem D_Hall_events (T : Hd K mg) : DmG P w K mg base 4 (hC K) "events" ["self", "start", "end"] (spEvents K) := by
  refine mk_DmG T.c_Hall T.m_Hall_events T.f_Hall_events (fun _ _ _ _ _ _ us hl => match us, hl with | [_, _, _], _ => rfl) fun fd F => ?_
  refine gok F sc_Hall_events (fun vs H Q E h => ?_) (fun cdv A outer s H vs Q E pn hr h => ?_)
  · obtain ⟨_, _, _, _, _, _, rfl, _⟩ := h
    rfl
  · obtain ⟨F1, L1, x, d, s0, e0, rfl, ok, hx, s1, s2, e1, e2, hl, hT, hS, k⟩ := h
    refine ⟨_, (gss_cons (gs_ps (ps_expr (d_call (D_check_tick (K := K) (mg := mg) (base := base) T) pass0 (hr.mono (by first | decide | omega)) (pa_cons (pv 1) pa_nil)))) (gss_cons (gs_ps (ps_expr (d_call (D_check_tick (K := K) (mg := mg) (base := base) T) pass0 (hr.mono (by first | decide | omega)) (pa_cons (pv 2) pa_nil)))) (gss_cons (gs_for owns_gcx rfl (pi_range2 rfl T.b_range (pa_cons (pv 1) (pa_cons (pv 2) pa_nil))) (pg_name (i := 3) sc_Hall_events.nd rfl (Or.inl rfl)) (gss_cons (gs_for owns_gcx rfl (pi_range2 rfl T.b_range (pa_cons (d_meth (D_Hall_taken (K := K) (mg := mg) (base := base) T) pass0 (hr.mono (by first | decide | omega)) (pv 0) (pa_cons (pv 3) pa_nil)) (pa_cons (d_meth (D_Hall_taken (K := K) (mg := mg) (base := base) T) pass0 (hr.mono (by first | decide | omega)) (pv 0) (pa_cons (d_add K (pv 3) pe_int) pa_nil)) pa_nil))) (pg_name (i := 4) sc_Hall_events.nd rfl (Or.inl rfl)) (gss_cons (gs_yield (pe_tup (pa_cons pe_str (pa_cons (pv 3) (pa_cons (pv 4) pa_nil))))) gss_nil)) (gss_cons (gs_for owns_gcx rfl (pi_range2 rfl T.b_range (pa_cons (d_meth (D_Hall_called (K := K) (mg := mg) (base := base) T) pass0 (hr.mono (by first | decide | omega)) (pv 0) (pa_cons (pv 3) pa_nil)) (pa_cons (d_meth (D_Hall_called (K := K) (mg := mg) (base := base) T) pass0 (hr.mono (by first | decide | omega)) (pv 0) (pa_cons (d_add K (pv 3) pe_int) pa_nil)) pa_nil))) (pg_name (i := 4) sc_Hall_events.nd rfl (Or.inl rfl)) (gss_cons (gs_yield (pe_tup (pa_cons pe_str (pa_cons (pv 3) (pa_cons (pv 4) pa_nil))))) gss_nil)) gss_nil))) gss_nil))), ?_⟩
    show tGThen _ _ _ [] [some (.ref x), some (.int s0), some (.int e0), none, none] H
    have hcH := T.c_Hall; have hn_modulus := T.n_modulus; have hn_takes := T.n_takes; have hn_calls := T.n_calls; have hn_lateness := T.n_lateness; have hn_length := T.n_length; have hn_taken_by := T.n_taken_by; have hn_called_by := T.n_called_by
    clear hr F T cdv A outer s
    have l18 : ∀ i : Nat, i < (e0 - s0).toNat → (d.evs s0.toNat i).length + 18 ≤ 18018 := fun i hi => by
      have := HD.evs_len ok s0.toNat i
      omega
    refine rg_plain ?_
    exists "go"
    refine rg_plain ?_
    exists "go"
    refine rg_forN ?_
    exists "go"
    refine gk_range (fun i ys σ H => ∃ v3 v4, σ = [some (.ref x), some (.int s0), some (.int e0), v3, v4] ∧ S (evP K ys (d.evs s0.toNat i) :: F1) L1 H) ⟨_, _, rfl, (by assumption : S F1 L1 _).put_ _ (Ent.all fun _ => .nil)⟩ ?_ ?_
    · clear hS
      rintro i ys σ H hi ⟨v3, v4, rfl, hS⟩
      have l18 := l18 i hi
      have et : (s0 + (i : Int)).toNat = s0.toNat + i := by omega
      have et1 : (s0 + (i : Int) + 1).toNat = s0.toNat + i + 1 := by omega
      have ec : s0 + (i : Int) = ((s0.toNat + i : Nat) : Int) := by omega
      have ta := ok.a0 (s0.toNat + i)
      have tb : d.T (s0.toNat + i + 1) = d.T (s0.toNat + i) + d.a (s0.toNat + i) := rfl
      have tc := HD.T_mono ok (show s0.toNat + i + 1 ≤ e0.toNat by omega)
      have td := HD.T_nonneg ok (s0.toNat + i)
      have cc := HD.C_nonneg ok (s0.toNat + i)
      have cd := HD.C_le_T ok (s0.toNat + i)
      have ce := HD.C_le_T ok (s0.toNat + i + 1)
      have ca := HD.C_step ok (s0.toNat + i)
      have cb := HD.C_mono1 ok (s0.toNat + i)
      exists "go"
      refine rg_for ?_
      exists "go"
      rw [et, et1]
      exists "go"
      refine gk_range (fun j ys σ H => ∃ v4, σ = [some (.ref x), some (.int s0), some (.int e0), some (.int (s0 + (i : Int))), v4] ∧ S (evP K ys (d.evs s0.toNat i ++ evT "take" (s0 + (i : Int)) (d.T (s0.toNat + i)) j) :: F1) L1 H) ⟨_, rfl, by
        rw [show evT "take" (s0 + (i : Int)) (d.T (s0.toNat + i)) 0 = [] from rfl, List.append_nil]; assumption⟩ ?_ ?_
      · clear hS
        rintro j ys σ H hj ⟨v4, rfl, hS⟩
        exists "go"
        refine rg_yieldN ?_ ?_
        · obtain ⟨E, _, z, _⟩ := hS.ex
          rw [Ev3.len (z _ List.mem_cons_self), List.length_append, evT_len]
          exact Nat.lt_of_le_of_lt (show _ ≤ 18018 by omega) (by decide)
        exists "go"
        refine ⟨_, rfl, ?_⟩
        rw [evT_succ, ← List.append_assoc]
        exact ev_snoc (by assumption)
      clear hS
      rintro ys σ H ⟨v4, rfl, hS⟩
      refine rg_nx ?_
      refine rg_forN ?_
      exists "go"
      rw [et, et1]
      exists "go"
      refine gk_range (fun j ys σ H => ∃ v4, σ = [some (.ref x), some (.int s0), some (.int e0), some (.int (s0 + (i : Int))), v4] ∧ S (evP K ys (d.evs s0.toNat i ++ evT "take" (s0 + (i : Int)) (d.T (s0.toNat + i)) (d.T (s0.toNat + i + 1) - d.T (s0.toNat + i)).toNat ++ evT "call" (s0 + (i : Int)) (d.C (s0.toNat + i)) j) :: F1) L1 H) ⟨_, rfl, by
        rw [show evT "call" (s0 + (i : Int)) (d.C (s0.toNat + i)) 0 = [] from rfl, List.append_nil]; assumption⟩ ?_ ?_
      · clear hS
        rintro j ys σ H hj ⟨v4, rfl, hS⟩
        exists "go"
        refine rg_yieldN ?_ ?_
        · obtain ⟨E, _, z, _⟩ := hS.ex
          rw [Ev3.len (z _ List.mem_cons_self), List.length_append, List.length_append, evT_len, evT_len]
          exact Nat.lt_of_le_of_lt (show _ ≤ 18018 by omega) (by decide)
        exists "go"
        refine ⟨_, rfl, ?_⟩
        rw [evT_succ, ← List.append_assoc]
        exact ev_snoc (by assumption)
      clear hS
      rintro ys σ H ⟨v4, rfl, hS⟩
      refine ⟨_, _, rfl, ?_⟩
      have e9 : d.evs s0.toNat (i + 1) = d.evs s0.toNat i ++ evT "take" (s0 + (i : Int)) (d.T (s0.toNat + i)) (d.T (s0.toNat + i + 1) - d.T (s0.toNat + i)).toNat ++ evT "call" (s0 + (i : Int)) (d.C (s0.toNat + i)) (d.C (s0.toNat + i + 1) - d.C (s0.toNat + i)).toNat := by
        show d.evs s0.toNat i ++ (evT "take" _ _ _ ++ evT "call" _ _ _) = _
        rw [← List.append_assoc, ← ec, tb, show d.T (s0.toNat + i) + d.a (s0.toNat + i) - d.T (s0.toNat + i) = d.a (s0.toNat + i) by omega]
      rw [e9]
      exact hS
    · rintro ys σ H ⟨v3, v4, rfl, hS⟩
      exact k _ _ hS
theorem sc_Watcher_candidates : FnScope ["self"] ["self"] (defScope s_Watcher_candidates) := ⟨rfl, rfl, rfl, by decide +kernel, rfl, by decide +kernel, by decide +kernel⟩
theorem D_Watcher_candidates (T : Hd K mg) : Dpr P w K mg base CX0 1 (wC K) "candidates" ["self"] (spCand K) := by
  refine mk_Dp T.c_Watcher T.p_Watcher_candidates T.f_Watcher_candidates (fun _ _ _ _ _ _ us hl => match us, hl with | [_], _ => rfl) fun fd F => ?_
  refine F.ok sc_Watcher_candidates (fun vs H Q E h => ?_) (fun cdv A outer s H vs Q E hr h => ?_)
  · obtain ⟨_, _, _, _, _, _, _, _, rfl, _⟩ := h
    rfl
  · obtain ⟨F1, L1, wx, dx, x, ls, lf, fs, rfl, h1, h2, hS, k⟩ := h
    refine ⟨_, (PSs.nox (pss_one (ps_ret (pe_callTy (c_list (K := K) rfl) rfl T.b_list bt_list (pa_cons (d_fld K (pv 0)) pa_nil))))), ?_⟩
    refine r_start (u := [some (.ref wx)]) rfl ?_
    have hcWatcher := T.c_Watcher; have hn_Watcher_hall := T.n_Watcher_hall; have hn_Watcher_starts := T.n_Watcher_starts; have hn_Watcher_facts := T.n_Watcher_facts
    clear hr F T cdv A outer s
    exists "go"
    exact k _ _ (by exists "tw wk")

theorem sc_Watcher_next_displays : FnScope ["self", "found", "numbers", "start", "digits"] ["self"] (defScope s_Watcher_next_displays) := ⟨rfl, rfl, rfl, by decide +kernel, rfl, by decide +kernel, by decide +kernel⟩
theorem D_Watcher_next_displays (T : Hd K mg) : Dpr P w K mg base CX0 4 (wC K) "next_displays" ["self"] (spNext K) := by
  refine mk_Dp T.c_Watcher T.p_Watcher_next_displays T.f_Watcher_next_displays (fun _ _ _ _ _ _ us hl => match us, hl with | [_], _ => rfl) fun fd F => ?_
  refine F.ok sc_Watcher_next_displays (fun vs H Q E h => ?_) (fun cdv A outer s H vs Q E hr h => ?_)
  · obtain ⟨_, _, _, _, _, _, _, _, _, _, rfl, _⟩ := h
    rfl
  · obtain ⟨F1, L1, wx, dx, x, ls, lf, d, st, fs, rfl, ok, hx, h2, h3, m1, m2, m3, hS, k⟩ := h
    refine ⟨_, (PSs.nox (pss_cons (ps_setLc (i := 1) rfl sc_Watcher_next_displays.nd rfl rfl (sw_true rfl rfl rfl (by decide +kernel)) (d_ilist K (d_fld K (pv 0))) (blkOk_by (own := [("start", 3)]) (by show blkC ["self", "found", "numbers", "start", "digits"] (defScope s_Watcher_next_displays) _ _ = true; decide +kernel)) (fun _ _ _ _ _ => (pg_name (i := 3) sc_Watcher_next_displays.nd rfl (by first | exact Or.inl rfl | exact Or.inr rfl))) (fun _ _ _ _ _ => pts_nil) (fun _ _ _ _ _ => (d_call (D_shown (K := K) (mg := mg) (base := base) T) pass0 (hr.mono (by first | decide | omega)) (pa_cons (d_fld K (pv 0)) (pa_cons (d_add K (pv 3) (pe_callB (c_len (K := K) rfl) rfl T.b_len bt_len (pa_cons (d_fld K (pv 0)) pa_nil))) pa_nil))))) (pss_cons (ps_set (i := 2) sc_Watcher_next_displays.nd rfl (Or.inl rfl) (d_srtSet K rfl T.b_sorted rfl T.b_set (pe_lc (own := [("digits", 4)]) rfl sc_Watcher_next_displays.nd (d_ilist K (pv 1)) (blkOk_by (own := [("digits", 4)]) (by show blkC ["self", "found", "numbers", "start", "digits"] (defScope s_Watcher_next_displays) _ _ = true; decide +kernel)) (fun _ _ _ _ _ => (pg_name (i := 4) sc_Watcher_next_displays.nd rfl (by first | exact Or.inl rfl | exact Or.inr rfl))) (fun _ _ _ _ _ => (pts_one (q_cmp o_isn (pv 4) pe_non))) (fun _ _ _ _ _ => (pv 4))))) (pss_one (ps_ret (d_add K (pe_ifExp (q_cmp (o_in K) pe_non (pv 1)) (pe_lst (pa_cons pe_non pa_nil)) (pe_lst pa_nil)) (pv 2))))))), ?_⟩
    refine r_start (u := [some (.ref wx), none, none, none, none]) rfl ?_
    have hcH := T.c_Hall; have hn_modulus := T.n_modulus; have hn_takes := T.n_takes; have hn_calls := T.n_calls; have hn_lateness := T.n_lateness; have hn_length := T.n_length; have hn_taken_by := T.n_taken_by; have hn_called_by := T.n_called_by
    have hcWatcher := T.c_Watcher; have hn_Watcher_hall := T.n_Watcher_hall; have hn_Watcher_starts := T.n_Watcher_starts; have hn_Watcher_facts := T.n_Watcher_facts
    clear hr F T cdv A outer s
    exists "go"
    refine k_lcL (st.map V.int) (by exists "tw wip") hS (fun l i H => S F1 ((l, .lst (shF d (st.take i) fs.length)) :: L1) H) (fun l H hS => hS) (fun l i H _ hS => by exists "tw sql") ?_ ?_
    · clear hS
      rintro l i y H hy hS
      obtain ⟨s, hs, rfl⟩ := map_get hy
      have hl2 := List.length_take_le' i st
      exists "go"
      rename S _ ((l, _) :: _) _ => hS9
      have e1 : shF d (st.take (i + 1)) fs.length = shF d (st.take i) fs.length ++ [Shown d (s + fs.length)] := by
        rw [List.take_add_one, hs]
        exact List.map_append
      rw [e1]
      exact hS9
    · clear hS
      rintro l H hS
      rw [List.length_map, List.take_length] at hS
      generalize hv : shF d st fs.length = us at *
      have hf : us.all flatV = true := by rw [← hv]; exact shF_flat
      have hn : ∀ (i : Nat) v, us[i]? = some v → NI v := fun i v h => by rw [← hv] at h; exact shF_ni h
      have hu : us.length = st.length := by rw [← hv, List.length_map]
      clear hv
      exists "go"
      refine k_lcL us (by exists "tw wip") hS (fun l2 i H => S F1 ((l2, .lst ((intsV (us.take i)).map V.int)) :: (l, .lst us) :: L1) H) (fun l H hS => hS) (fun l i H _ hS => by exists "tw sql") ?_ ?_
      · clear hS
        rintro l2 i y H hy hS
        have hl := intsV_len (us.take i)
        have hl2 := List.length_take_le' i us
        rcases hn i y hy with rfl | ⟨j, rfl⟩
        · exists "go"
          rw [intsV_no hy]
          exists "tw wk"
        · exists "go"
          rename S _ ((_, .lst (_ ++ _)) :: _) _ => hS9
          rw [← intsV_yes hy] at hS9
          exact hS9
      · clear hS
        rintro l2 H hS
        rw [List.take_length] at hS
        have hl := intsV_len us
        refine x_srt (B := 1800) hS (show SqL K _ _ ((intsV us).map V.int) by exists "tw sql") (by decide) (.inr (by omega)) fun zs l3 H ha hm hz hS => ?_
        exists "go"
        cases hb : inV V.non us
        · refine x_inFl (b := false) (by exists "tw sql") rfl hf hb ?_
          exists "go"
          refine k zs _ _ ha hm hz ?_
          rw [nxP_f hb]
          exists "tw wk"
        · refine x_inFl (b := true) (by exists "tw sql") rfl hf hb ?_
          exists "go"
          refine k zs _ _ ha hm hz ?_
          rw [nxP_t hb]
          exists "tw wk"
theorem sc_encode : FnScope ["hall", "result"] ["hall"] (defScope s_encode) := ⟨rfl, rfl, rfl, by decide +kernel, rfl, by decide +kernel, by decide +kernel⟩
theorem D_encode (T : Hd K mg) : Df P w K mg base CX0 1 "encode" ["hall"] (spEncode K) := by
  refine mk_Df T.g_encode T.f_encode (fun _ _ _ _ _ _ us hl => match us, hl with | [_], _ => rfl) fun fd F => ?_
  refine F.ok sc_encode (fun vs H Q E h => ?_) (fun cdv A outer s H vs Q E hr h => ?_)
  · obtain ⟨_, _, _, _, rfl, _⟩ := h
    rfl
  · obtain ⟨F1, L1, x, d, rfl, ok, hx, hS, k⟩ := h
    refine ⟨_, (PSs.nox (pss_cons (ps_set (i := 1) sc_encode.nd rfl (Or.inl rfl) (pe_lst (pa_cons (d_gint T.i_TAG) (d_star K (pe_callB c_divmod rfl T.b_divmod bt_divmod (pa_cons (d_fld K (pv 0)) (pa_cons (d_gint T.i_BYTE) pa_nil))) (pa_cons (pe_callB (c_len (K := K) rfl) rfl T.b_len bt_len (pa_cons (d_fld K (pv 0)) pa_nil)) (d_star K (d_fld K (pv 0)) (pa_cons (pe_callB (c_len (K := K) rfl) rfl T.b_len bt_len (pa_cons (d_fld K (pv 0)) pa_nil)) (d_star K (d_fld K (pv 0)) pa_nil)))))))) (pss_cons (ps_expr (d_bm K PySem.F.plainAttrs_list PySem.F.slot_list_append PySem.F.type_list_append mt_append (pv 1) (pa_cons (d_fld K (pv 0)) pa_nil))) (pss_one (ps_ret (pe_lst (d_star K (pv 1) (pa_cons (d_mod (pe_callB (c_sum (K := K) rfl rfl) rfl T.b_sum bt_sum (pa_cons (pv 1) pa_nil)) (d_gint T.i_BYTE)) pa_nil)))))))), ?_⟩
    refine r_start (u := [some (.ref x), none]) rfl ?_
    have hcH := T.c_Hall; have hn_modulus := T.n_modulus; have hn_takes := T.n_takes; have hn_calls := T.n_calls; have hn_lateness := T.n_lateness; have hn_length := T.n_length; have hn_taken_by := T.n_taken_by; have hn_called_by := T.n_called_by
    clear hr F T cdv A outer s
    obtain ⟨m0, m1, t0, t1, t2, c0, c1, c2, l0, l1⟩ := id ok
    exists "go"
    rename S _ ((_, .lst (_ ++ [_])) :: _) _ => hS9
    rw [ecB_map] at hS9
    refine x_sumL (ns := ecB d) (by exists "tw sql") ?_
    exists "go"
    rename S _ ((_, .lst (_ ++ [V.int (_ % 256)])) :: _) _ => hS8
    rw [ecB_map, ecode_map] at hS8
    exact k _ _ (hS8.sub (by exists "tw sub") (by exists "tw sub"))
theorem sc_first_above : FnScope ["hall", "size", "bound", "start", "tick", "ticks", "rounds"] ["hall", "size", "bound"] (defScope s_first_above) := ⟨rfl, rfl, rfl, by decide +kernel, rfl, by decide +kernel, by decide +kernel⟩
theorem D_first_above (T : Hd K mg) : Df P w K mg base CX0 6 "first_above" ["hall", "size", "bound"] (spAbove P w K mg base) := by
  refine mk_Df T.g_first_above T.f_first_above (fun _ _ _ _ _ _ us hl => match us, hl with | [_, _, _], _ => rfl) fun fd F => ?_
  refine F.ok sc_first_above (fun vs H Q E h => ?_) (fun cdv A outer s H vs Q E hr h => ?_)
  · obtain ⟨_, _, _, _, _, _, _, _, rfl, _⟩ := h
    rfl
  · obtain ⟨F1, L1, x, f, d, m, o, g, rfl, ok, hx, hf, ⟨sp, hc, hg⟩, hG, hS, k⟩ := h
    refine ⟨_, (PSs.nox (pss_cons (ps_set (i := 3) sc_first_above.nd rfl (Or.inl rfl) (d_add K (d_prop (D_Hall_period (K := K) (mg := mg) (base := base) T) pass0 (hr.mono (by first | decide | omega)) (pv 0)) (d_fld K (pv 0)))) (pss_cons (ps_for PassesOwn.never rfl (pi_range1 rfl T.b_range (pa_cons (d_add K (pv 3) (d_prop (D_Hall_period (K := K) (mg := mg) (base := base) T) pass0 (hr.mono (by first | decide | omega)) (pv 0))) pa_nil)) (pg_name (i := 4) sc_first_above.nd rfl (Or.inl rfl)) (pss_one (ps_if (q_cmp o_gt (d_clo P w K mg base 4 1 (hr.mono (by decide)) (pa_cons (pv 4) pa_nil)) (pv 2)) (pss_one (ps_ret (pv 4))) pss_nil))) (pss_cons (ps_if (q_cmp (o_eq K hr.units) (d_prop (D_Hall_growth (K := K) (mg := mg) (base := base) T) pass0 (hr.mono (by first | decide | omega)) (pv 0)) pe_int) (pss_one (ps_ret pe_non)) pss_nil) (pss_cons (ps_set (i := 5) sc_first_above.nd rfl (Or.inl rfl) (pe_lst pa_nil)) (pss_cons (ps_for PassesOwn.never rfl (pi_range2 rfl T.b_range (pa_cons (pv 3) (pa_cons (d_add K (pv 3) (d_prop (D_Hall_period (K := K) (mg := mg) (base := base) T) pass0 (hr.mono (by first | decide | omega)) (pv 0))) pa_nil))) (pg_name (i := 4) sc_first_above.nd rfl (Or.inl rfl)) (pss_cons (ps_set (i := 6) sc_first_above.nd rfl (Or.inl rfl) (d_add K (d_div (d_sub (pv 2) (d_clo P w K mg base 4 1 (hr.mono (by decide)) (pa_cons (pv 4) pa_nil))) (d_prop (D_Hall_growth (K := K) (mg := mg) (base := base) T) pass0 (hr.mono (by first | decide | omega)) (pv 0))) pe_int)) (pss_one (ps_expr (d_bm K PySem.F.plainAttrs_list PySem.F.slot_list_append PySem.F.type_list_append mt_append (pv 5) (pa_cons (d_add K (pv 4) (d_mul K (pv 6) (d_prop (D_Hall_period (K := K) (mg := mg) (base := base) T) pass0 (hr.mono (by first | decide | omega)) (pv 0)))) pa_nil)))))) (pss_one (ps_ret (pe_callB (c_min (K := K) rfl rfl) rfl T.b_min bt_min (pa_cons (pv 5) pa_nil)))))))))), ?_⟩
    refine r_start (u := [some (.ref x), some (.ref f), some (.int m), none, none, none, none]) rfl ?_
    have hcH := T.c_Hall; have hn_modulus := T.n_modulus; have hn_takes := T.n_takes; have hn_calls := T.n_calls; have hn_lateness := T.n_lateness; have hn_length := T.n_length; have hn_taken_by := T.n_taken_by; have hn_called_by := T.n_called_by
    clear hr F T cdv A outer s
    have p0 := HD.per_pos ok
    have p1 := HD.per_le ok
    have l0 := ok.l0
    have l1 := ok.l1
    have g0 := HD.gr_nonneg (d := d)
    have gi := HD.gain_bd ok
    have gb : d.gr ≤ 10000 := by
      have := (HD.T_bd ok (n := d.per) (by omega)).2
      have := HD.gain_nonneg ok
      unfold HD.gain at this
      omega
    exists "go"
    refine k_range (fun i σ H => ∃ v4 v5 v6, σ = [some (.ref x), some (.ref f), some (.int m), some (.int (d.per + d.lt)), v4, v5, v6] ∧ (∀ s : Nat, s < i → ¬ m < g s) ∧ S F1 L1 H) ⟨_, _, _, rfl, (fun s hs => absurd hs (Nat.not_lt_zero _)), by exists "tw wk"⟩ ?_ ?_
    · clear hS
      rintro i σ H hi ⟨v4, v5, v6, rfl, ha, hS⟩
      exists "go"
      refine x_clo rfl hS hf hc ?_
      exists "go"
      refine ⟨hS.phi hf, hg _ _ _ _ _ _ (by omega) (fun _ h => h) hS fun H hS => ?_⟩
      have ei : ((0 : Int) + (i : Int)).toNat = i := by omega
      rw [ei]
      exists "go"
      · exact k _ (.inr ⟨i, by rw [Int.zero_add], by assumption, ha⟩) _ (by exists "tw wk")
      · rename_i hcc
        refine ⟨_, _, _, rfl, fun s hs => ?_, by exists "tw wk"⟩
        rcases Nat.lt_or_ge s i with z | z
        · exact ha s z
        · rw [show s = i by omega]
          exact hcc
    · clear hS
      rintro σ H ⟨v4, v5, v6, rfl, ha, hS⟩
      obtain ⟨st, hst⟩ : ∃ st : Nat, (st : Int) = (d.per : Int) + d.lt := ⟨((d.per : Int) + d.lt).toNat, by omega⟩
      have G := hG st hst
      have hn : ∀ t, t < st + d.per → ¬ (True ∧ m < g t) := fun t ht => by
        have := ha t (by omega)
        exact fun z => this z.2
      have fst : ∀ v, First (fun t => True ∧ m < g t) v → First (fun t => m < g t) v := fun v h => by
        rcases h with ⟨a, b⟩ | ⟨t, a, b, c⟩
        · exact .inl ⟨a, fun t z => b t ⟨trivial, z⟩⟩
        · exact .inr ⟨t, a, b.2, fun s hs z => c s hs ⟨trivial, z⟩⟩
      exists "go"
      · rename_i hz
        exact k _ (fst _ (.inl ⟨rfl, fun s => G.never hn (.inl hz) s⟩)) _ (by exists "tw wk")
      · rename_i lk H2 hS2 H3 hS3
        have hz : ¬ d.gr = 0 := by assumption
        refine k_range (fun i σ H => ∃ v4 v6, σ = [some (.ref x), some (.ref f), some (.int m), some (.int (d.per + d.lt)), v4, some (.ref lk), v6] ∧ S F1 ((lk, .lst ((List.range i).map fun j => V.int (far g (fun _ => m) d.per d.gr (st + j)))) :: L1) H) ⟨_, _, rfl, by rw [range_zero]; exists "tw wk"⟩ ?_ ?_
        · clear hS hS2 hS3
          rintro i σ H hi ⟨v4, v6, rfl, hS⟩
          exists "go"
          refine x_clo rfl hS hf hc ?_
          exists "go"
          refine ⟨hS.phi hf, hg _ _ _ _ _ _ (by omega) (fun _ h => h) hS fun H hS => ?_⟩
          have ei : ((d.per : Int) + d.lt + (i : Int)).toNat = st + i := by omega
          rw [ei]
          exists "go"
          have e : ((d.per : Int) + d.lt + i) + ((m - g (st + i)) / d.gr + 1) * d.per = far g (fun _ => m) d.per d.gr (st + i) := by
            unfold far
            rw [show (d.per : Int) + d.lt + i = ((st + i : Nat) : Int) by omega]
          have hS9 := (by assumption : S F1 ((lk, .lst (_ ++ [_])) :: L1) _)
          rw [e, range_snoc (g := fun j => V.int (far g (fun _ => m) d.per d.gr (st + j))) rfl] at hS9
          exact ⟨_, _, rfl, by exists "tw wk"⟩
        · clear hS hS2 hS3
          rintro σ H ⟨v4, v6, rfl, hS⟩
          have e0 : ((d.per : Int) + d.lt + d.per - (d.per + d.lt)).toNat = d.per := by omega
          rw [e0] at hS
          exists "go"
          have e1 : (List.range d.per).map (fun j => V.int (far g (fun _ => m) d.per d.gr (st + j))) = ((List.range d.per).map fun j => far g (fun _ => m) d.per d.gr (st + j)).map V.int := by
            rw [List.map_map]
            rfl
          rw [e1] at hS
          refine x_minL (ns := (List.range d.per).map fun j => far g (fun _ => m) d.per d.gr (st + j)) (by exists "tw sql") (by rw [List.length_map, List.length_range]; omega) fun y ym yl => ?_
          obtain ⟨j, hj, ey⟩ := List.mem_map.mp ym
          have hj := List.mem_range.mp hj
          refine k _ (fst _ (G.first (by omega) hn ⟨st + j, by omega, by omega, trivial, ey.symm⟩ fun t h1 h2 _ => yl _ (List.mem_map.mpr ⟨t - st, List.mem_range.mpr (by omega), ?_⟩))) _ (by exists "tw wk")
          rw [show st + (t - st) = t by omega]
theorem sc_first_clash : FnScope ["hall", "tick", "older"] ["hall"] (defScope s_first_clash) := ⟨rfl, rfl, rfl, by decide +kernel, rfl, by decide +kernel, by decide +kernel⟩
theorem D_first_clash (T : Hd K mg) : Df P w K mg base CX0 7 "first_clash" ["hall"] (spClash K (tabF K "first_clash")) := by
  refine mk_Df T.g_first_clash T.f_first_clash (fun _ _ _ _ _ _ us hl => match us, hl with | [_], _ => rfl) fun fd F => ?_
  refine fun_okT F sc_first_clash (fun vs H Q E h => ?_) (fun A outer s H vs Q E hr h => ?_)
  · obtain ⟨_, _, _, _, _, rfl, _⟩ := h
    rfl
  · obtain ⟨F1, L1, x, d, ps, rfl, ok, hx, ht, hS, k⟩ := h
    refine ⟨_, (PSs.nox (pss_cons (ps_set (i := 1) sc_first_clash.nd rfl (Or.inl rfl) (d_callC [(0, s.heap.objs.size + 1)] (D_first_above (K := K) (mg := mg) (base := base) T) (hr.mono (by first | decide | omega)) (by intro p hp; simp only [List.mem_cons, List.not_mem_nil, or_false] at hp; rcases hp with rfl <;> exact ⟨_, rfl, .inl rfl, rfl, rfl⟩) (pa_cons (pv 0) (pa_cons (d_lam (defScope s_first_clash) (tb_first_clash (K := K) (mg := mg) (base := base))) (pa_cons (d_fld K (pv 0)) pa_nil))))) (pss_cons (ps_if (q_cmp o_is (pv 1) pe_non) (pss_one (ps_ret pe_non)) pss_nil) (pss_cons (ps_set (i := 2) sc_first_clash.nd rfl (Or.inl rfl) (d_ix K (d_call (D_open_range (K := K) (mg := mg) (base := base) T) pass0 (hr.mono (by first | decide | omega)) (pa_cons (pv 0) (pa_cons (pv 1) pa_nil))) pe_int (fun _ _ => rfl))) (pss_one (ps_ret (pe_tup (pa_cons (pv 1) (pa_cons (pv 2) (pa_cons (d_add K (pv 2) (d_fld K (pv 0))) pa_nil)))))))))), ?_⟩
    refine r_start (u := [some (.ref x), none, none]) rfl ?_
    have hcH := T.c_Hall; have hn_modulus := T.n_modulus; have hn_takes := T.n_takes; have hn_calls := T.n_calls; have hn_lateness := T.n_lateness; have hn_length := T.n_length; have hn_taken_by := T.n_taken_by; have hn_called_by := T.n_called_by
    have l0 := ok.l0
    exists "go"
    refine r_callC ?_
    exists "go"
    refine x_lam hS ht fun ps' c f pm ctv H' hS => ?_
    exists "go"
    refine ⟨fun p hp => by cases List.mem_singleton.mp hp; exact ⟨_, rfl⟩, fun cs hcs hn => ?_⟩
    cases hcs with
    | cons c1 c2 =>
      cases c2
      obtain ⟨v, u, e1, e2, e3⟩ := c1
      have e1 : v = .ref x := by cases e1; rfl
      subst e1
      have hS2 := (by assumption : S (cel f _ :: _) _ _)
      have nd : ([s.heap.objs.size + 1] : List Addr).Nodup := List.nodup_cons.mpr ⟨List.not_mem_nil, List.nodup_nil⟩
      refine c_above (g := d.O) hS2 hn nd ok (by exists "tw mem") ⟨_, clo_at ["tick"] ["hall"] cxAdds0 rfl rfl ?_ ?_ ?_ ?_ (fun A outer s H E hr => d_call (D_count_open (K := K) (mg := mg) (base := base) T) pass0 (hr.mono (by decide)) (pa_cons (pv 1) (pa_cons (pv 0) pa_nil))), fun t F' L' H Q E h0 hm hS' hq => ?_⟩ (fun st e => o_grow ok st e) fun v hv H hS => ?_
      · exact ⟨rfl, rfl, rfl, by decide +kernel, by decide +kernel, by decide +kernel, by decide +kernel, by decide +kernel, by decide +kernel⟩
      · intro y hy
        rw [List.mem_singleton.mp hy]
        exact ⟨_, rfl⟩
      · exact inj_one rfl
      · exact fun us hl => match us, hl with | [_], _ => rfl
      · refine spClo_of (ws := [.ref x]) (fun v => v = .int (d.O t.toNat)) hS2 (by exists "tw mem") hn nd rfl rfl (fun i y hi => ?_) hS' hm (fun H0 Q' E' s0 hq' => ?_) fun v hv H3 s3 => by rw [hv]; exact hq _ s3
        · match i, hi with
          | 0, hi =>
            cases hi
            exact ⟨_, List.mem_cons_self, _, _, rfl, rfl, e3, e2⟩
        · show tCall _ _ _ _ [some (.int t), some (.ref x)] H0 Q'
          clear hS' hS2 hS
          exists "go"
          exact hq' _ rfl _ (by exists "tw wk")
      · clear hS2 hn nd e2 e3
        obtain ⟨k0, k1⟩ := k ps'
        rcases hv with ⟨rfl, hv⟩ | ⟨t, rfl, h1, h2⟩
        · simp only [List.set_cons_succ, List.set_cons_zero]
          exists "go"
          exact k0 hv _ (by exists "tw wk")
        · simp only [List.set_cons_succ, List.set_cons_zero]
          exists "go"
          rename_i p H3 hS3
          exact k1 t h1 h2 p _ ((hS3.put_ (tuF K p [.int t, .int (d.C ((t : Int) - d.lt).toNat), .int (d.C ((t : Int) - d.lt).toNat + d.m)]) (by exists "tw ent")).sub (by exists "tw sub") (by exists "tw sub"))
theorem sc_numbers_between : FnScope ["hall", "digits", "first", "end"] ["hall", "digits", "first", "end"] (defScope s_numbers_between) := ⟨rfl, rfl, rfl, by decide +kernel, rfl, by decide +kernel, by decide +kernel⟩
theorem D_numbers_between (T : Hd K mg) : Df P w K mg base CX0 1 "numbers_between" ["hall", "digits", "first", "end"] (spBetw K) := by
  refine mk_Df T.g_numbers_between T.f_numbers_between (fun _ _ _ _ _ _ us hl => match us, hl with | [_, _, _, _], _ => rfl) fun fd F => ?_
  refine F.ok sc_numbers_between (fun vs H Q E h => ?_) (fun cdv A outer s H vs Q E hr h => ?_)
  · obtain ⟨_, _, _, _, _, _, _, rfl, _⟩ := h
    rfl
  · obtain ⟨F1, L1, x, d, dg, f, e, rfl, ok, hx, f0, f1, e0, e1, hn, hS, k⟩ := h
    refine ⟨_, (PSs.nox (pss_one (ps_ret (pe_listRg3 rfl rfl T.b_list rfl T.b_range (pa_cons (d_add K (pv 2) (d_mod (d_sub (pv 1) (pv 2)) (d_fld K (pv 0)))) (pa_cons (pv 3) (pa_cons (d_fld K (pv 0)) pa_nil))))))), ?_⟩
    refine r_start (u := [some (.ref x), some (.int dg), some (.int f), some (.int e)]) rfl ?_
    have hcH := T.c_Hall; have hn_modulus := T.n_modulus; have hn_takes := T.n_takes; have hn_calls := T.n_calls; have hn_lateness := T.n_lateness; have hn_length := T.n_length; have hn_taken_by := T.n_taken_by; have hn_called_by := T.n_called_by
    clear hr F T cdv A outer s
    have m0 := ok.m0
    have m1 := ok.m1
    have r0 := Int.emod_nonneg (dg - f) (show d.m ≠ 0 by omega)
    have r1 := Int.emod_lt_of_pos (dg - f) (show 0 < d.m by omega)
    exists "go"
    refine x_lrg3 (by assumption) (n := apn (f + (dg - f) % d.m) e d.m) (RgC.up (by omega) (by omega) (by omega) (by omega) (by omega) (by omega) (apn_eq (by omega))) hn fun q H hS => ?_
    exact k q _ hS
theorem sc_holders : FnScope ["hall", "tick", "digits", "first", "end"] ["hall", "tick", "digits"] (defScope s_holders) := ⟨rfl, rfl, rfl, by decide +kernel, rfl, by decide +kernel, by decide +kernel⟩
theorem D_holders (T : Hd K mg) : Df P w K mg base CX0 4 "holders" ["hall", "tick", "digits"] (spHold K) := by
  refine mk_Df T.g_holders T.f_holders (fun _ _ _ _ _ _ us hl => match us, hl with | [_, _, _], _ => rfl) fun fd F => ?_
  refine F.ok sc_holders (fun vs H Q E h => ?_) (fun cdv A outer s H vs Q E hr h => ?_)
  · obtain ⟨_, _, _, _, _, _, rfl, _⟩ := h
    rfl
  · obtain ⟨F1, L1, x, d, t, n, rfl, ok, hx, t0, t1, n0, n1, hn, hS, k⟩ := h
    refine ⟨_, (PSs.nox (pss_cons (ps_expr (d_call (D_check_tick (K := K) (mg := mg) (base := base) T) pass0 (hr.mono (by first | decide | omega)) (pa_cons (pv 1) pa_nil))) (pss_cons (ps_expr (d_call (D_check_digits (K := K) (mg := mg) (base := base) T) pass0 (hr.mono (by first | decide | omega)) (pa_cons (pv 0) (pa_cons (pv 2) pa_nil)))) (pss_cons (ps_asg (d_call (D_open_range (K := K) (mg := mg) (base := base) T) pass0 (hr.mono (by first | decide | omega)) (pa_cons (pv 0) (pa_cons (pv 1) pa_nil))) (d_gtup K (n := 2) rfl (pgs_cons (pg_name (i := 3) sc_holders.nd rfl (Or.inl rfl)) (pgs_cons (pg_name (i := 4) sc_holders.nd rfl (Or.inl rfl)) pgs_nil)))) (pss_cons (ps_if (q_cmp o_gt (d_div (d_sub (pv 4) (pv 3)) (d_fld K (pv 0))) (d_gint T.i_MAX_TICKETS)) (pss_one ps_never) pss_nil) (pss_one (ps_ret (d_call (D_numbers_between (K := K) (mg := mg) (base := base) T) pass0 (hr.mono (by first | decide | omega)) (pa_cons (pv 0) (pa_cons (pv 2) (pa_cons (pv 3) (pa_cons (pv 4) pa_nil)))))))))))), ?_⟩
    refine r_start (u := [some (.ref x), some (.int t), some (.int n), none, none]) rfl ?_
    have hcH := T.c_Hall; have hn_modulus := T.n_modulus; have hn_takes := T.n_takes; have hn_calls := T.n_calls; have hn_lateness := T.n_lateness; have hn_length := T.n_length; have hn_taken_by := T.n_taken_by; have hn_called_by := T.n_called_by
    clear hr F T cdv A outer s
    have m0 := ok.m0
    have m1 := ok.m1
    have b0 := HD.C_nonneg ok (t - d.lt).toNat
    have b1 := HD.C_le_T ok (t - d.lt).toNat
    have b2 := HD.T_le ok (t - d.lt).toNat
    have l0 := ok.l0
    have b3 := HD.T_le ok (t + 1).toNat
    have b4 := HD.T_nonneg ok (t + 1).toNat
    rw [HD.O_int t0] at hn
    exists "go"
    have ha := apn_le (dg := n) (f := d.C (t - d.lt).toNat) (e := d.T (t + 1).toNat) (show 0 < d.m by omega) (n := 1000) (by omega)
    refine c_betw (by assumption) (by exists "tw mem") ok (by omega) (by omega) (by omega) (by omega) (by omega) fun l H hS => ?_
    exact k l _ (by exists "tw wk")
theorem sc_find_call : FnScope ["hall", "start", "number", "tick"] ["hall", "start", "number"] (defScope s_find_call) := ⟨rfl, rfl, rfl, by decide +kernel, rfl, by decide +kernel, by decide +kernel⟩
theorem D_find_call (T : Hd K mg) : Df P w K mg base CX0 2 "find_call" ["hall", "start", "number"] (spFind K) := by
  refine mk_Df T.g_find_call T.f_find_call (fun _ _ _ _ _ _ us hl => match us, hl with | [_, _, _], _ => rfl) fun fd F => ?_
  refine F.ok sc_find_call (fun vs H Q E h => ?_) (fun cdv A outer s H vs Q E hr h => ?_)
  · obtain ⟨_, _, _, _, _, _, rfl, _⟩ := h
    rfl
  · obtain ⟨F1, L1, x, d, b, n, rfl, ok, hx, b0, b1, ⟨N, hN⟩, hS, k⟩ := h
    refine ⟨_, (PSs.nox (pss_cons (ps_set (i := 3) sc_find_call.nd rfl (Or.inl rfl) (pv 1)) (pss_cons (ps_while PassesOwn.never (q_cmp o_le (d_meth (D_Hall_called (K := K) (mg := mg) (base := base) T) pass0 (hr.mono (by first | decide | omega)) (pv 0) (pa_cons (d_add K (pv 3) pe_int) pa_nil)) (pv 2)) (pss_one (ps_aug (i := 3) sc_find_call.nd rfl (Or.inl rfl) pe_int ip_add))) (pss_one (ps_ret (pv 3)))))), ?_⟩
    refine r_start (u := [some (.ref x), some (.int b), some (.int n), none]) rfl ?_
    clear hr F T cdv A outer s
    exists "go"
    refine k_whileT (fun m σ H => ∃ t : Nat, σ = [some (.ref x), some (.int b), some (.int n), some (.int t)] ∧ b.toNat ≤ t ∧ d.C t ≤ n ∧ m = N - t ∧ S F1 L1 H) _ ⟨b.toNat, by rw [Int.toNat_of_nonneg b0], Nat.le_refl _, b1, rfl, by exists "tw wk"⟩ ?_
    rintro m σ H G ⟨t, rfl, t0, t1, rfl, hS⟩ hG1 hG2
    have ht : t < N := by
      rcases Nat.lt_or_ge t N with z | z
      · exact z
      · have := HD.C_mono ok z
        omega
    have e1 : ((t : Int) + 1).toNat = t + 1 := by omega
    exists "go"
    rw [e1]
    refine g_dec (fun hc => ?_) (fun hc => ?_)
    · refine hG1 _ ?_
      exists "go"
      exact ⟨N - (t + 1), by omega, t + 1, rfl, by omega, hc, rfl, by exists "tw wk"⟩
    · refine hG2 _ ?_
      exists "go"
      exact k t t0 t1 (by omega) _ (by exists "tw wk")
theorem sc_tick_of_calling : FnScope ["hall", "number", "length", "first", "gain", "rounds", "rest"] ["hall", "number"] (defScope s_tick_of_calling) := ⟨rfl, rfl, rfl, by decide +kernel, rfl, by decide +kernel, by decide +kernel⟩
theorem D_tick_of_calling (T : Hd K mg) : Df P w K mg base CX0 3 "tick_of_calling" ["hall", "number"] (spCallT K) := by
  refine mk_Df T.g_tick_of_calling T.f_tick_of_calling (fun _ _ _ _ _ _ us hl => match us, hl with | [_, _], _ => rfl) fun fd F => ?_
  refine F.ok sc_tick_of_calling (fun vs H Q E h => ?_) (fun cdv A outer s H vs Q E hr h => ?_)
  · obtain ⟨_, _, _, _, _, rfl, _⟩ := h
    rfl
  · obtain ⟨F1, L1, x, d, n, rfl, ok, hx, n0, hS, k⟩ := h
    refine ⟨_, (PSs.nox (pss_cons (ps_set (i := 2) sc_tick_of_calling.nd rfl (Or.inl rfl) (d_prop (D_Hall_period (K := K) (mg := mg) (base := base) T) pass0 (hr.mono (by first | decide | omega)) (pv 0))) (pss_cons (ps_par rfl sc_tick_of_calling.nd (i := 3) (j := 4) rfl rfl (by decide) rfl rfl (pa_cons (d_meth (D_Hall_called (K := K) (mg := mg) (base := base) T) pass0 (hr.mono (by first | decide | omega)) (pv 0) (pa_cons (pv 2) pa_nil)) (pa_cons (d_sub (d_meth (D_Hall_called (K := K) (mg := mg) (base := base) T) pass0 (hr.mono (by first | decide | omega)) (pv 0) (pa_cons (d_mul K pe_int (pv 2)) pa_nil)) (d_meth (D_Hall_called (K := K) (mg := mg) (base := base) T) pass0 (hr.mono (by first | decide | omega)) (pv 0) (pa_cons (pv 2) pa_nil))) pa_nil)) (by rfl)) (pss_cons (ps_if (q_cmp o_lt (pv 1) (pv 3)) (pss_one (ps_ret (d_call (D_find_call (K := K) (mg := mg) (base := base) T) pass0 (hr.mono (by first | decide | omega)) (pa_cons (pv 0) (pa_cons pe_int (pa_cons (pv 1) pa_nil)))))) pss_nil) (pss_cons (ps_if (q_cmp (o_eq K hr.units) (pv 4) pe_int) (pss_one (ps_ret pe_non)) pss_nil) (pss_cons (ps_asg (pe_callB c_divmod rfl T.b_divmod bt_divmod (pa_cons (d_sub (pv 1) (pv 3)) (pa_cons (pv 4) pa_nil))) (d_gtup K (n := 2) rfl (pgs_cons (pg_name (i := 5) sc_tick_of_calling.nd rfl (Or.inl rfl)) (pgs_cons (pg_name (i := 6) sc_tick_of_calling.nd rfl (Or.inl rfl)) pgs_nil)))) (pss_one (ps_ret (d_add K (d_call (D_find_call (K := K) (mg := mg) (base := base) T) pass0 (hr.mono (by first | decide | omega)) (pa_cons (pv 0) (pa_cons (pv 2) (pa_cons (d_add K (pv 3) (pv 6)) pa_nil)))) (d_mul K (pv 5) (pv 2))))))))))), ?_⟩
    refine r_start (u := [some (.ref x), some (.int n), none, none, none, none, none]) rfl ?_
    clear hr F T cdv A outer s
    have p0 := HD.per_pos ok
    have p1 := HD.per_le ok
    have g0 := (HD.gain_bd ok).1
    have g1 := (HD.gain_bd ok).2
    have ge : d.C (2 * (d.per : Int)).toNat - d.C (d.per : Int).toNat = d.gain := by
      rw [Int.toNat_natCast, show (2 * (d.per : Int)).toNat = 2 * d.per by omega]
      exact HD.gain_eq ok
    have e0 : (d.per : Int).toNat = d.per := Int.toNat_natCast _
    exists "go"
    · rename_i hc
      refine c_find (by assumption) (by exists "tw mem") ok (Int.le_refl 0) n0 ⟨_, hc⟩ fun t t0 t1 t2 H hS => ?_
      exists "go"
      exact k _ (.inr ⟨t, rfl, t1, t2⟩) _ (by exists "tw wk")
    · rename_i hc hc2
      rw [e0] at hc
      exact k _ (.inl ⟨rfl, by omega, by omega⟩) _ (by exists "tw wk")
    · rw [ge, e0]
      rename_i hc hc2 p H3 hS3
      rw [e0] at hc
      have r0 : 0 ≤ (n - d.C d.per) % d.gain := Int.emod_nonneg _ (by omega)
      have r1 : (n - d.C d.per) % d.gain < d.gain := Int.emod_lt_of_pos _ (by omega)
      refine c_find (by assumption) (by exists "tw mem") ok (by omega) (by rw [e0]; omega) ⟨2 * d.per, by have := HD.gain_eq ok; omega⟩ fun t t0 t1 t2 H hS => ?_
      rw [e0] at t0
      have z := HD.C_rounds ok (n := n) (by omega) t t0 t1 t2
      have q0 : 0 ≤ (n - d.C d.per) / d.gain := Int.ediv_nonneg (by omega) g0
      have e2 : (t : Int) + (n - d.C d.per) / d.gain * (d.per : Int) = ((t + ((n - d.C d.per) / d.gain).toNat * d.per : Nat) : Int) := by
        rw [Int.natCast_add, Int.natCast_mul, Int.toNat_of_nonneg q0]
      exists "go"
      rw [e2]
      exact k _ (.inr ⟨_, rfl, z.1, z.2⟩) _ (by exists "tw wk")
theorem sc_tick_of_taking : FnScope ["hall", "number", "total", "rounds", "rest", "tick"] ["hall", "number"] (defScope s_tick_of_taking) := ⟨rfl, rfl, rfl, by decide +kernel, rfl, by decide +kernel, by decide +kernel⟩
theorem D_tick_of_taking (T : Hd K mg) : Df P w K mg base CX0 3 "tick_of_taking" ["hall", "number"] (spTakeT K) := by
  refine mk_Df T.g_tick_of_taking T.f_tick_of_taking (fun _ _ _ _ _ _ us hl => match us, hl with | [_, _], _ => rfl) fun fd F => ?_
  refine F.ok sc_tick_of_taking (fun vs H Q E h => ?_) (fun cdv A outer s H vs Q E hr h => ?_)
  · obtain ⟨_, _, _, _, _, rfl, _⟩ := h
    rfl
  · obtain ⟨F1, L1, x, d, n, rfl, ok, hx, n0, hS, k0, k1⟩ := h
    refine ⟨_, (PSs.nox (pss_cons (ps_set (i := 2) sc_tick_of_taking.nd rfl (Or.inl rfl) (d_meth (D_Hall_taken (K := K) (mg := mg) (base := base) T) pass0 (hr.mono (by first | decide | omega)) (pv 0) (pa_cons (d_prop (D_Hall_period (K := K) (mg := mg) (base := base) T) pass0 (hr.mono (by first | decide | omega)) (pv 0)) pa_nil))) (pss_cons (ps_if (q_cmp (o_eq K hr.units) (pv 2) pe_int) (pss_one (ps_ret pe_non)) pss_nil) (pss_cons (ps_asg (pe_callB c_divmod rfl T.b_divmod bt_divmod (pa_cons (pv 1) (pa_cons (pv 2) pa_nil))) (d_gtup K (n := 2) rfl (pgs_cons (pg_name (i := 3) sc_tick_of_taking.nd rfl (Or.inl rfl)) (pgs_cons (pg_name (i := 4) sc_tick_of_taking.nd rfl (Or.inl rfl)) pgs_nil)))) (pss_cons (ps_for PassesOwn.never rfl (pi_range1 rfl T.b_range (pa_cons (d_prop (D_Hall_period (K := K) (mg := mg) (base := base) T) pass0 (hr.mono (by first | decide | omega)) (pv 0)) pa_nil)) (pg_name (i := 5) sc_tick_of_taking.nd rfl (Or.inl rfl)) (pss_one (ps_if (q_cmp o_gt (d_meth (D_Hall_taken (K := K) (mg := mg) (base := base) T) pass0 (hr.mono (by first | decide | omega)) (pv 0) (pa_cons (d_add K (pv 5) pe_int) pa_nil)) (pv 4)) (pss_one (ps_ret (d_add K (d_mul K (pv 3) (d_prop (D_Hall_period (K := K) (mg := mg) (base := base) T) pass0 (hr.mono (by first | decide | omega)) (pv 0))) (pv 5)))) pss_nil))) (pss_one (ps_ret pe_non))))))), ?_⟩
    refine r_start (u := [some (.ref x), some (.int n), none, none, none, none]) rfl ?_
    clear hr F T cdv A outer s
    have p0 := HD.per_pos ok
    have p1 := HD.per_le ok
    have e0 : (d.per : Int).toNat = d.per := Int.toNat_natCast _
    have tb := HD.T_bd ok (n := (d.per : Int).toNat) (by omega)
    have tb0 := tb.1
    have tb1 := tb.2
    clear tb
    exists "go"
    · rename_i hc
      rw [e0] at hc
      exact k0 hc _ (by exists "tw wk")
    · rw [e0] at tb0 tb1
      rename_i hc _ _ _ H3 hS3
      rw [e0] at hc
      rw [e0]
      have r0 : 0 ≤ n % d.T d.per := Int.emod_nonneg _ (by omega)
      have r1 : n % d.T d.per < d.T d.per := Int.emod_lt_of_pos _ (by omega)
      refine k_range (fun i σ H => ∃ v, σ = [some (.ref x), some (.int n), some (.int (d.T d.per)), some (.int (n / d.T d.per)), some (.int (n % d.T d.per)), v] ∧ d.T i ≤ n % d.T d.per ∧ S F1 L1 H) ⟨_, rfl, r0, by exists "tw wk"⟩ ?_ ?_
      · rintro i σ H hi ⟨v, rfl, hT, hS⟩
        have e1 : ((0 : Int) + (i : Int) + 1).toNat = i + 1 := by omega
        exists "go"
        · rename_i hc2 _ _
          rw [e1] at hc2
          have z := HD.T_rounds ok n0 i hT hc2
          have e2 : n / d.T d.per * (d.per : Int) + (0 + (i : Int)) = (((n / d.T d.per).toNat * d.per + i : Nat) : Int) := by
            have q0 : 0 ≤ n / d.T d.per := Int.ediv_nonneg n0 (by omega)
            rw [Int.natCast_add, Int.natCast_mul, Int.toNat_of_nonneg q0]
            omega
          rw [e2]
          exact k1 _ (by omega) z.1 z.2 _ (by exists "tw wk")
        · rename_i hc2
          rw [e1] at hc2
          exact ⟨_, rfl, by omega, by exists "tw wk"⟩
      · rintro σ H ⟨v, rfl, hT, hS⟩
        try rw [e0] at hT
        omega
theorem sc_longest_wait : FnScope ["hall", "waits", "number"] ["hall"] (defScope s_longest_wait) := ⟨rfl, rfl, rfl, by decide +kernel, rfl, by decide +kernel, by decide +kernel⟩
theorem D_longest_wait (T : Hd K mg) : Df P w K mg base CX0 4 "longest_wait" ["hall"] (spLong K) := by
  refine mk_Df T.g_longest_wait T.f_longest_wait (fun _ _ _ _ _ _ us hl => match us, hl with | [_], _ => rfl) fun fd F => ?_
  refine F.ok sc_longest_wait (fun vs H Q E h => ?_) (fun cdv A outer s H vs Q E hr h => ?_)
  · obtain ⟨_, _, _, _, rfl, _⟩ := h
    rfl
  · obtain ⟨F1, L1, x, d, rfl, ok, hx, hS, k0, k1⟩ := h
    refine ⟨_, (PSs.nox (pss_cons (ps_if (q_cmp o_gt (d_prop (D_Hall_growth (K := K) (mg := mg) (base := base) T) pass0 (hr.mono (by first | decide | omega)) (pv 0)) pe_int) (pss_one (ps_ret pe_non)) pss_nil) (pss_cons (ps_set (i := 1) sc_longest_wait.nd rfl (Or.inl rfl) (pe_lst (pa_cons pe_int pa_nil))) (pss_cons (ps_for PassesOwn.never rfl (pi_range1 rfl T.b_range (pa_cons (d_meth (D_Hall_taken (K := K) (mg := mg) (base := base) T) pass0 (hr.mono (by first | decide | omega)) (pv 0) (pa_cons (d_mul K pe_int (d_prop (D_Hall_period (K := K) (mg := mg) (base := base) T) pass0 (hr.mono (by first | decide | omega)) (pv 0))) pa_nil)) pa_nil)) (pg_name (i := 2) sc_longest_wait.nd rfl (Or.inl rfl)) (pss_one (ps_expr (d_bm K PySem.F.plainAttrs_list PySem.F.slot_list_append PySem.F.type_list_append mt_append (pv 1) (pa_cons (d_sub (d_call (D_tick_of_calling (K := K) (mg := mg) (base := base) T) pass0 (hr.mono (by first | decide | omega)) (pa_cons (pv 0) (pa_cons (pv 2) pa_nil))) (d_call (D_tick_of_taking (K := K) (mg := mg) (base := base) T) pass0 (hr.mono (by first | decide | omega)) (pa_cons (pv 0) (pa_cons (pv 2) pa_nil)))) pa_nil))))) (pss_one (ps_ret (pe_callB (c_max (K := K) rfl rfl) rfl T.b_max bt_max (pa_cons (pv 1) pa_nil)))))))), ?_⟩
    refine r_start (u := [some (.ref x), none, none]) rfl ?_
    have hcH := T.c_Hall; have hn_modulus := T.n_modulus; have hn_takes := T.n_takes; have hn_calls := T.n_calls; have hn_lateness := T.n_lateness; have hn_length := T.n_length; have hn_taken_by := T.n_taken_by; have hn_called_by := T.n_called_by
    clear hr F T cdv A outer s
    have p0 := HD.per_pos ok
    have p1 := HD.per_le ok
    have tb := HD.T_bd ok (n := (2 * (d.per : Int)).toNat) (by omega)
    have tb0 := tb.1
    have tb1 := tb.2
    have g0 := HD.gr_nonneg (d := d)
    clear tb
    have p2 : (2 * (d.per : Int)).toNat = 2 * d.per := by omega
    exists "go"
    · exact k0 (by assumption) _ (by exists "tw wk")
    · rename_i hc l _ _ _ _ H2 hS2
      have gz : d.gr = 0 := by omega
      have ge : d.gain = d.T d.per := by unfold HD.gain; omega
      refine k_range (fun i σ H => ∃ (ws : List Int) (v : Option V), σ = [some (.ref x), some (.ref l), v] ∧ ws.length = i + 1 ∧ (0 : Int) ∈ ws ∧ (∀ y ∈ ws, y = 0 ∨ ∃ n : Int, 0 ≤ n ∧ n < i ∧ d.IsWait n y) ∧ (∀ n v : Int, 0 ≤ n → n < i → d.IsWait n v → v ∈ ws) ∧ S F1 ((l, .lst (ws.map V.int)) :: L1) H)
        ⟨[0], _, rfl, rfl, List.mem_singleton.mpr rfl, fun y hy => .inl (List.mem_singleton.mp hy), fun n v h1 h2 => by omega, by exists "tw wk"⟩ ?_ ?_
      · clear hS2 H2
        rintro i σ H hi ⟨ws, v, rfl, hl, h0, h1, h2, hS⟩
        rw [p2] at hi
        exists "go"
        refine c_callT hS hx ok (by omega) fun u hu H hS => ?_
        rcases hu with ⟨rfl, z1, z2⟩ | ⟨c, rfl, c1, c2⟩
        · exfalso
          have e := HD.T_per (d := d) d.per
          rw [show d.per + d.per = 2 * d.per by omega] at e
          omega
        · exists "go"
          refine c_takeT hS hx ok (by omega) (fun hz H hS => ?_) (fun t t0 t1 t2 H hS => ?_)
          · exfalso
            have e := HD.T_per (d := d) d.per
            rw [show d.per + d.per = 2 * d.per by omega] at e
            omega
          · rw [Int.zero_add] at c1 c2 t1 t2
            have hw : d.IsWait i ((c : Int) - t) := ⟨c, t, c1, c2, t1, t2, rfl⟩
            rw [p2] at tb1
            exists "go"
            refine ⟨ws ++ [(c : Int) - t], _, rfl, by rw [List.length_append, hl]; rfl, List.mem_append.mpr (.inl h0), fun y hy => ?_, fun n v n0 n1 hv => ?_, ?_⟩
            · rcases List.mem_append.mp hy with hy | hy
              · rcases h1 y hy with z | ⟨n, a, b, c⟩
                · exact .inl z
                · exact .inr ⟨n, a, by omega, c⟩
              · rw [List.mem_singleton.mp hy]
                exact .inr ⟨i, by omega, by omega, hw⟩
            · by_cases z : n = i
              · subst z
                rw [HD.wait_uniq ok hv hw]
                exact List.mem_append.mpr (.inr (List.mem_singleton.mpr rfl))
              · exact List.mem_append.mpr (.inl (h2 n v n0 (by omega) hv))
            · rw [List.map_append]
              assumption
      · clear hS2 H2
        rintro σ H ⟨ws, v, rfl, hl, h0, h1, h2, hS⟩
        rw [p2] at h1 h2
        exists "go"
        refine x_maxL (by exists "tw sql") (by omega) fun m m0 m1 => ?_
        exists "go"
        refine k1 m gz (HD.long_of ok gz (N := d.T (2 * d.per)) (Int.le_refl _) ?_ (m1 0 h0) ?_) _ (by exists "tw wk")
        · rcases h1 m m0 with z | ⟨n, a, b, c⟩
          · exact .inl z
          · exact .inr ⟨n, a, by rw [p2] at tb0; omega, c⟩
        · intro n v n0 n1 hv
          exact m1 v (h2 n v n0 (by rw [p2] at tb0; omega) hv)
theorem sc_mistaken : FnScope ["hall", "tick", "first", "end", "last", "found", "number", "other"] ["hall", "tick"] (defScope s_mistaken) := ⟨rfl, rfl, rfl, by decide +kernel, rfl, by decide +kernel, by decide +kernel⟩
theorem D_mistaken (T : Hd K mg) : Df P w K mg base CX0 4 "mistaken" ["hall", "tick"] (spMist K) := by
  refine mk_Df T.g_mistaken T.f_mistaken (fun _ _ _ _ _ _ us hl => match us, hl with | [_, _], _ => rfl) fun fd F => ?_
  refine F.ok sc_mistaken (fun vs H Q E h => ?_) (fun cdv A outer s H vs Q E hr h => ?_)
  · obtain ⟨_, _, _, _, _, rfl, _⟩ := h
    rfl
  · obtain ⟨F1, L1, x, d, t, rfl, ok, hx, t0, t1, hn, hS, k⟩ := h
    refine ⟨_, (PSs.nox (pss_cons (ps_expr (d_call (D_check_tick (K := K) (mg := mg) (base := base) T) pass0 (hr.mono (by first | decide | omega)) (pa_cons (pv 1) pa_nil))) (pss_cons (ps_par3 rfl sc_mistaken.nd (i := 2) (j := 3) (l := 4) rfl rfl rfl (by decide) (by decide) (by decide) rfl rfl rfl (pa_cons (d_meth (D_Hall_called (K := K) (mg := mg) (base := base) T) pass0 (hr.mono (by first | decide | omega)) (pv 0) (pa_cons (pv 1) pa_nil)) (pa_cons (d_meth (D_Hall_called (K := K) (mg := mg) (base := base) T) pass0 (hr.mono (by first | decide | omega)) (pv 0) (pa_cons (d_add K (pv 1) pe_int) pa_nil)) (pa_cons (d_meth (D_Hall_taken (K := K) (mg := mg) (base := base) T) pass0 (hr.mono (by first | decide | omega)) (pv 0) (pa_cons (d_add K (pv 1) pe_int) pa_nil)) pa_nil))) (by rfl)) (pss_cons (ps_if (q_cmp o_gt (d_mul K (d_div (d_sub (pv 4) (pv 3)) (d_fld K (pv 0))) (d_sub (pv 3) (pv 2))) (d_gint T.i_MAX_TICKETS)) (pss_one ps_never) pss_nil) (pss_cons (ps_set (i := 5) sc_mistaken.nd rfl (Or.inl rfl) (pe_lst pa_nil)) (pss_cons (ps_for PassesOwn.never rfl (pi_range2 rfl T.b_range (pa_cons (pv 2) (pa_cons (pv 3) pa_nil))) (pg_name (i := 6) sc_mistaken.nd rfl (Or.inr rfl)) (pss_one (ps_expr (d_bm K PySem.F.plainAttrs_list PySem.F.slot_list_extend PySem.F.type_list_extend mt_extend (pv 5) (pa_cons (pe_lc (own := [("other", 7)]) rfl sc_mistaken.nd (d_ilist K (d_call (D_numbers_between (K := K) (mg := mg) (base := base) T) pass0 (hr.mono (by first | decide | omega)) (pa_cons (pv 0) (pa_cons (d_mod (pv 6) (d_fld K (pv 0))) (pa_cons (pv 3) (pa_cons (pv 4) pa_nil)))))) (blkOk_by (own := [("other", 7)]) (by show blkC ["hall", "tick", "first", "end", "last", "found", "number", "other"] (defScope s_mistaken) _ _ = true; decide +kernel)) (fun _ _ _ _ _ => (pg_name (i := 7) sc_mistaken.nd rfl (by first | exact Or.inl rfl | exact Or.inr rfl))) (fun _ _ _ _ _ => pts_nil) (fun _ _ _ _ _ => (pe_tup (pa_cons (pv 6) (pa_cons (pv 7) pa_nil))))) pa_nil))))) (pss_one (ps_ret (pv 5))))))))), ?_⟩
    refine r_start (u := [some (.ref x), some (.int t), none, none, none, none, none, none]) rfl ?_
    have hcH := T.c_Hall; have hn_modulus := T.n_modulus; have hn_takes := T.n_takes; have hn_calls := T.n_calls; have hn_lateness := T.n_lateness; have hn_length := T.n_length; have hn_taken_by := T.n_taken_by; have hn_called_by := T.n_called_by
    clear hr F T cdv A outer s
    have m0 := ok.m0
    have m1 := ok.m1
    have et : (t + 1).toNat = t.toNat + 1 := by omega
    unfold MisOk at hn
    rw [← et] at hn
    have c1 := HD.C_mono ok (show t.toNat ≤ (t + 1).toNat by omega)
    have c2 : d.C (t + 1).toNat ≤ d.C t.toNat + 9 := by rw [et]; exact HD.C_step ok _
    have b0 := HD.C_nonneg ok t.toNat
    have b1 := HD.C_le_T ok (t + 1).toNat
    have b3 := HD.T_le ok (t + 1).toNat
    have q0 := Int.ediv_nonneg (show 0 ≤ d.T (t + 1).toNat - d.C (t + 1).toNat by omega) (show 0 ≤ d.m by omega)
    exists "go"
    rename_i lf H5 hS5
    have eM : MstL d t.toNat = mst d.m (d.C t.toNat) (d.C (t + 1).toNat) (d.T (t + 1).toNat) (d.C (t + 1).toNat - d.C t.toNat).toNat := by unfold MstL; rw [et]
    rw [eM] at k
    refine k_range (fun i σ H => ∃ v6 v7 ws, σ = [some (.ref x), some (.int t), some (.int (d.C t.toNat)), some (.int (d.C (t + 1).toNat)), some (.int (d.T (t + 1).toNat)), some (.ref lf), v6, v7] ∧ S (prP K ws (mst d.m (d.C t.toNat) (d.C (t + 1).toNat) (d.T (t + 1).toNat) i) :: F1) ((lf, .lst ws) :: L1) H) ⟨_, _, [], rfl, (hS5.put_ (prP K [] []) (Ent.all fun E => .nil)).sub ?_ ?_⟩ ?_ ?_
    · exists "tw sub"
    · exists "tw sub"
    · clear hS5 hS
      rintro i σ H hi ⟨v6, v7, ws, rfl, hS⟩
      have ql := misOk_le q0 (show 1 ≤ d.C (t + 1).toNat - d.C t.toNat by omega) hn
      have wl := (hS.phi List.mem_cons_self).len
      have wm := mst_len (f := d.C t.toNat) (e := d.C (t + 1).toNat) (l := d.T (t + 1).toNat) (show 0 < d.m by omega) ql i
      have ap := apn_le (dg := (d.C t.toNat + i) % d.m) (f := d.C (t + 1).toNat) (e := d.T (t + 1).toNat) (show 0 < d.m by omega) (n := 1000) (by omega)
      have em : mst d.m (d.C t.toNat) (d.C (t + 1).toNat) (d.T (t + 1).toNat) (i + 1) = mst d.m (d.C t.toNat) (d.C (t + 1).toNat) (d.T (t + 1).toNat) i ++ (btw d.m ((d.C t.toNat + i) % d.m) (d.C (t + 1).toNat) (d.T (t + 1).toNat)).map fun o => (d.C t.toNat + i, o) := rfl
      rw [em]
      exists "go"
      refine c_betw (by assumption) (by exists "tw mem") ok (by omega) (by omega) (by omega) (by omega) (by omega) fun l H hS => ?_
      clear em
      rw [← btw_length] at ap
      generalize btw d.m ((d.C t.toNat + i) % d.m) (d.C (t + 1).toNat) (d.T (t + 1).toNat) = B at *
      generalize mst d.m (d.C t.toNat) (d.C (t + 1).toNat) (d.T (t + 1).toNat) i = M at *
      exists "go"
      refine k_lcL (B.map V.int) (by exists "tw wip") (by assumption) (fun l2 j H => ∃ vs, S (prP K vs ((B.take j).map fun o => (d.C t.toNat + i, o)) :: prP K ws M :: F1) ((l2, .lst vs) :: (l, .lst (B.map V.int)) :: (lf, .lst ws) :: L1) H) (fun l2 H hS => ⟨[], (hS.put_ (prP K [] []) (Ent.all fun E => .nil)).sub (by exists "tw sub") (by exists "tw sub")⟩) (fun l2 j H _ hh => by obtain ⟨vs, hS⟩ := hh; exists "tw sql") ?_ ?_
      · clear hS
        rintro l2 j y H hy ⟨vs, hS⟩
        obtain ⟨o, ho, rfl⟩ : ∃ o, B[j]? = some o ∧ y = .int o := by
          rw [List.getElem?_map] at hy
          cases e : B[j]? with
          | none => rw [e] at hy; cases hy
          | some o => rw [e] at hy; exact ⟨o, rfl, (Option.some.inj hy).symm⟩
        have vl := (hS.phi List.mem_cons_self).len
        rw [List.length_map] at vl
        have vt := List.length_take_le j B
        have jl := (List.getElem?_eq_some_iff.mp ho).1
        exists "go"
        rename S (cel _ _ :: _) ((l2, _) :: _) _ => hS9
        have e2 : (B.take (j + 1)).map (fun o => (d.C t.toNat + (i : Int), o)) = (B.take j).map (fun o => (d.C t.toNat + (i : Int), o)) ++ [(d.C t.toNat + (i : Int), o)] := by
          rw [List.take_add_one, ho, List.map_append]
          rfl
        rw [e2]
        refine ⟨_, (hS9.put_ (prP K _ _) (fun E z => Pr2.app (z (prP K vs _) (List.mem_cons_of_mem _ List.mem_cons_self)) (.cons (SqT.of (z _ List.mem_cons_self)) .nil))).sub (by exists "tw sub") (by exists "tw sub")⟩
      · clear hS
        rintro l2 H ⟨vs, hS⟩
        have vl := (hS.phi List.mem_cons_self).len
        rw [List.length_map, List.length_map, List.take_length] at vl
        exists "go"
        rename S (prP _ _ _ :: _) _ _ => hS9
        refine ⟨_, _, ws ++ vs, rfl, (hS9.put_ (prP K (ws ++ vs) (M ++ B.map fun o => (d.C t.toNat + (i : Int), o))) (fun E z => Pr2.app (z (prP K ws M) (List.mem_cons_of_mem _ List.mem_cons_self)) ?_)).sub (by exists "tw sub") (by exists "tw sub")⟩
        have h9 := z (prP K vs _) List.mem_cons_self
        rw [List.length_map, List.take_length] at h9
        exact h9
    · clear hS5 hS
      rintro σ H ⟨v6, v7, ws, rfl, hS⟩
      exists "go"
      have hl := (hS.phi List.mem_cons_self).len
      by_cases z : d.C (t + 1).toNat - d.C t.toNat = 0
      · refine k lf ws _ ?_ hS
        rw [hl, z]
        exact Nat.zero_le _
      · have ql := misOk_le q0 (show 1 ≤ d.C (t + 1).toNat - d.C t.toNat by omega) hn
        have := mst_len (f := d.C t.toNat) (e := d.C (t + 1).toNat) (l := d.T (t + 1).toNat) (show 0 < d.m by omega) ql (d.C (t + 1).toNat - d.C t.toNat).toNat
        exact k lf ws _ (by omega) hS
theorem sc_open_tickets : FnScope ["hall", "tick", "first", "end"] ["hall", "tick"] (defScope s_open_tickets) := ⟨rfl, rfl, rfl, by decide +kernel, rfl, by decide +kernel, by decide +kernel⟩
theorem D_open_tickets (T : Hd K mg) : Df P w K mg base CX0 3 "open_tickets" ["hall", "tick"] (spOpen K) := by
  refine mk_Df T.g_open_tickets T.f_open_tickets (fun _ _ _ _ _ _ us hl => match us, hl with | [_, _], _ => rfl) fun fd F => ?_
  refine F.ok sc_open_tickets (fun vs H Q E h => ?_) (fun cdv A outer s H vs Q E hr h => ?_)
  · obtain ⟨_, _, _, _, _, rfl, _⟩ := h
    rfl
  · obtain ⟨F1, L1, x, d, t, rfl, ok, hx, h0, h1, hS, k⟩ := h
    refine ⟨_, (PSs.nox (pss_cons (ps_expr (d_call (D_check_tick (K := K) (mg := mg) (base := base) T) pass0 (hr.mono (by first | decide | omega)) (pa_cons (pv 1) pa_nil))) (pss_cons (ps_asg (d_call (D_open_range (K := K) (mg := mg) (base := base) T) pass0 (hr.mono (by first | decide | omega)) (pa_cons (pv 0) (pa_cons (pv 1) pa_nil))) (d_gtup K (n := 2) rfl (pgs_cons (pg_name (i := 2) sc_open_tickets.nd rfl (Or.inl rfl)) (pgs_cons (pg_name (i := 3) sc_open_tickets.nd rfl (Or.inl rfl)) pgs_nil)))) (pss_one (ps_ret (pe_tup (pa_cons (pv 2) (pa_cons (d_sub (pv 3) (pv 2)) pa_nil)))))))), ?_⟩
    refine r_start (u := [some (.ref x), some (.int t), none, none]) rfl ?_
    clear hr F T cdv A outer s

    exists "go"
    rename_i p H3 hS3
    have e : d.T (t + 1).toNat - d.C (t - d.lt).toNat = d.O t.toNat := by
      unfold HD.O
      rw [show (t + 1).toNat = t.toNat + 1 by omega, Int.toNat_of_nonneg h0]
    rw [e] at hS3
    exact k p _ ((hS3.put_ (tuF K p [.int (d.C (t - d.lt).toNat), .int (d.O t.toNat)]) (by exists "tw ent")).sub (by exists "tw sub") (by exists "tw sub"))
theorem sc_ticket_times : FnScope ["hall", "number", "taking"] ["hall", "number"] (defScope s_ticket_times) := ⟨rfl, rfl, rfl, by decide +kernel, rfl, by decide +kernel, by decide +kernel⟩
theorem D_ticket_times (T : Hd K mg) : Df P w K mg base CX0 4 "ticket_times" ["hall", "number"] (spTimes K) := by
  refine mk_Df T.g_ticket_times T.f_ticket_times (fun _ _ _ _ _ _ us hl => match us, hl with | [_, _], _ => rfl) fun fd F => ?_
  refine F.ok sc_ticket_times (fun vs H Q E h => ?_) (fun cdv A outer s H vs Q E hr h => ?_)
  · obtain ⟨_, _, _, _, _, rfl, _⟩ := h
    rfl
  · obtain ⟨F1, L1, x, d, n, rfl, ok, hx, n0, n1, hS, k0, k1⟩ := h
    refine ⟨_, (PSs.nox (pss_cons (ps_if (pt_not (pt_val (d_call (D_is_int_in (K := K) (mg := mg) (base := base) T) pass0 (hr.mono (by first | decide | omega)) (pa_cons (pv 1) (pa_cons pe_int (pa_cons (d_gint T.i_MAX_TICK) pa_nil)))))) (pss_one ps_never) pss_nil) (pss_cons (ps_set (i := 2) sc_ticket_times.nd rfl (Or.inl rfl) (d_call (D_tick_of_taking (K := K) (mg := mg) (base := base) T) pass0 (hr.mono (by first | decide | omega)) (pa_cons (pv 0) (pa_cons (pv 1) pa_nil)))) (pss_one (ps_ret (pe_ifExp (q_cmp o_is (pv 2) pe_non) pe_non (pe_tup (pa_cons (pv 2) (pa_cons (d_call (D_tick_of_calling (K := K) (mg := mg) (base := base) T) pass0 (hr.mono (by first | decide | omega)) (pa_cons (pv 0) (pa_cons (pv 1) pa_nil))) pa_nil))))))))), ?_⟩
    refine r_start (u := [some (.ref x), some (.int n), none]) rfl ?_
    clear hr F T cdv A outer s
    exists "go"
    refine c_takeT (by assumption) (by exists "tw mem") ok n0 (fun hz H hS => ?_) (fun t t0 t1 t2 H hS => ?_)
    · exists "go"
      exact k0 hz _ (by exists "tw wk")
    · exists "go"
      refine c_callT (by assumption) (by exists "tw mem") ok n0 fun v hv H hS => ?_
      exists "go"
      rename_i p H3 hS3
      exact k1 t v p _ t0 t1 t2 hv ((hS3.put_ (tuF K p [.int t, v]) (by exists "tw ent")).sub (by exists "tw sub") (by exists "tw sub"))

theorem sc_law_results : FnScope ["_law_hall_here", "_law_results_here"] ["_law_hall_here"] (defScope s_law_results) := ⟨rfl, rfl, rfl, by decide +kernel, rfl, by decide +kernel, by decide +kernel⟩
theorem D_law_results (T : Hd K mg) : Df P w K mg base CX0 10 "_law_results" ["_law_hall_here"] (spResults K (tabF K "first_clash")) := by
  refine mk_Df T.g_law_results T.f_law_results (fun _ _ _ _ _ _ us hl => match us, hl with | [_], _ => rfl) fun fd F => ?_
  refine F.ok sc_law_results (fun vs H Q E h => ?_) (fun cdv A outer s H vs Q E hr h => ?_)
  · obtain ⟨_, _, _, _, _, _, rfl, _⟩ := h
    rfl
  · obtain ⟨F1, L1, L2, x, d, ts, rfl, ok, t3, c3, m10, hx, ht, hl, hS, k⟩ := h
    refine ⟨_, (PSs.nox (pss_cons (ps_set (i := 1) sc_law_results.nd rfl (Or.inl rfl) (pe_lst (pa_cons (d_listM (D_Hall_events (K := K) (mg := mg) (base := base) T) (hr.mono (by first | decide | omega)) T.b_list (pv 0) (pa_cons pe_int (pa_cons pe_int pa_nil))) (pa_cons (d_call (D_holders (K := K) (mg := mg) (base := base) T) pass0 (hr.mono (by first | decide | omega)) (pa_cons (pv 0) (pa_cons pe_int (pa_cons pe_int pa_nil)))) (pa_cons (d_call (D_mistaken (K := K) (mg := mg) (base := base) T) pass0 (hr.mono (by first | decide | omega)) (pa_cons (pv 0) (pa_cons pe_int pa_nil))) (pa_cons (d_call (D_encode (K := K) (mg := mg) (base := base) T) pass0 (hr.mono (by first | decide | omega)) (pa_cons (pv 0) pa_nil)) (pa_cons (d_call (D_open_tickets (K := K) (mg := mg) (base := base) T) pass0 (hr.mono (by first | decide | omega)) (pa_cons (pv 0) (pa_cons pe_int pa_nil))) pa_nil))))))) (pss_cons (ps_set (i := 1) sc_law_results.nd rfl (Or.inl rfl) (d_add K (pv 1) (pe_lst (pa_cons (d_call (D_first_clash (K := K) (mg := mg) (base := base) T) pass0 (hr.mono (by first | decide | omega)) (pa_cons (pv 0) pa_nil)) (pa_cons (d_call (D_most_open (K := K) (mg := mg) (base := base) T) pass0 (hr.mono (by first | decide | omega)) (pa_cons (pv 0) pa_nil)) (pa_cons (d_call (D_ticket_times (K := K) (mg := mg) (base := base) T) pass0 (hr.mono (by first | decide | omega)) (pa_cons (pv 0) (pa_cons pe_int pa_nil))) (pa_cons (d_call (D_longest_wait (K := K) (mg := mg) (base := base) T) pass0 (hr.mono (by first | decide | omega)) (pa_cons (pv 0) pa_nil)) (pa_cons (d_prop (D_Hall_text (K := K) (mg := mg) (base := base) T) pass0 (hr.mono (by first | decide | omega)) (pv 0)) pa_nil)))))))) (pss_one (ps_ret (d_add K (pv 1) (pe_lst (pa_cons (d_prop (D_Watcher_candidates (K := K) (mg := mg) (base := base) T) pass0 (hr.mono (by first | decide | omega)) (d_make (D_Watcher_init (K := K) (mg := mg) (base := base) T) pass0 (hr.mono (by first | decide | omega)) (pa_cons (pv 0) pa_nil))) (pa_cons (d_prop (D_Watcher_next_displays (K := K) (mg := mg) (base := base) T) pass0 (hr.mono (by first | decide | omega)) (d_make (D_Watcher_init (K := K) (mg := mg) (base := base) T) pass0 (hr.mono (by first | decide | omega)) (pa_cons (pv 0) pa_nil))) pa_nil))))))))), ?_⟩
    refine r_start (u := [some (.ref x), none]) rfl ?_
    have hcH := T.c_Hall; have hn_modulus := T.n_modulus; have hn_takes := T.n_takes; have hn_calls := T.n_calls; have hn_lateness := T.n_lateness; have hn_length := T.n_length; have hn_taken_by := T.n_taken_by; have hn_called_by := T.n_called_by
    clear hr F T cdv A outer s
    have hS := hS.pull hl
    clear hl
    have p6 := HD.per_small ok t3 c3
    have m0 := ok.m0
    obtain ⟨dz, db⟩ := dis_small ok p6 m10
    have d5 : d.dis ≤ 5000 := by omega
    have o5 : d.O (5 : Int).toNat / d.m ≤ 1000 := by
      have a := T_le9 ok (5 + 1)
      have b := HD.C_nonneg ok (((5 : Int).toNat : Int) - d.lt).toNat
      have c : d.O (5 : Int).toNat ≤ 54 := by
        show d.T (5 + 1) - d.C _ ≤ 54
        omega
      have e : d.O (5 : Int).toNat / d.m ≤ 54 / d.m := Int.ediv_le_ediv (by omega) c
      have f : 54 / d.m ≤ 54 := Int.ediv_le_self _ (by omega)
      omega
    have mok : MisOk d (3 : Int).toNat := by
      have a := T_le9 ok (3 + 1)
      have b := HD.C_nonneg ok (3 + 1)
      have c := HD.C_step ok 3
      have c2 : d.C 3 ≤ d.C (3 + 1) := HD.C_mono ok (Nat.le_succ 3)
      unfold MisOk
      have e : (d.T ((3 : Int).toNat + 1) - d.C ((3 : Int).toNat + 1)) / d.m ≤ 36 := by
        have e1 : (d.T ((3 : Int).toNat + 1) - d.C ((3 : Int).toNat + 1)) / d.m ≤ 36 / d.m := Int.ediv_le_ediv (by omega) (by show d.T (3 + 1) - d.C (3 + 1) ≤ 36; omega)
        have f : 36 / d.m ≤ 36 := Int.ediv_le_self _ (by omega)
        omega
      have e2 : d.C ((3 : Int).toNat + 1) - d.C (3 : Int).toNat ≤ 9 := by show d.C (3 + 1) - d.C 3 ≤ 9; omega
      have := Int.mul_le_mul e e2 (by show (0 : Int) ≤ d.C (3 + 1) - d.C 3; omega) (by omega)
      omega
    exists "go"
    refine r_listG ?_
    exists "go"
    refine x_methG (by assumption) (by exists "tw mem") (fun _ _ _ _ => rfl) ?_
    exists "go"
    refine c_events (by assumption) (by exists "tw mem") ok (by omega) (by omega) (by omega) (by omega) (by omega) (by have := T_le9 ok (4 : Int).toNat; omega) fun ws l1 H hS => ?_
    exists "go"
    refine c_hold (by assumption) (by exists "tw mem") ok (by omega) (by omega) (by omega) (by omega) o5 fun l2 H hS => ?_
    exists "go"
    refine c_mist (by assumption) (by exists "tw mem") ok (by omega) (by omega) mok fun l3 ws3 H w3 hS => ?_
    exists "go"
    rename_i l4 H4 hS4 p5 H5 hS5 p6 H6 hS6 v2 ts9 H7 hS7
    refine c_mostA (by assumption) (by exists "tw mem") ok fun v3 n3 H hS => ?_
    exists "go"
    refine c_timesA (by assumption) (by exists "tw mem") ok (by omega) (by omega) fun v4 H hS => ?_
    exists "go"
    refine c_longA (by assumption) (by exists "tw mem") ok fun v5 n5 H hS => ?_
    exists "go"
    rename_i l5 H8 hS8 p9 dp9 H9 hS9 ls9 lf9 H10 hS10
    have il := iv_len (a := 0) (b := (d.dis : Int))
    refine c_next (st := iv 0 d.dis) (fs := []) (by assumption) (by exists "tw mem") (by exists "tw mem") (by exists "tw mem") (by exists "tw mem") ok (by omega) (by decide) fun zs l6 H z1 z2 z3 hS => ?_
    exists "go"
    rename S _ _ _ => hS9
    have q1 := ev_len hS9 (show evP K ws _ ∈ _ by exists "tw mem")
    have q2 := HD.evs_len ok 2 2
    have q3 := btw_len (m := d.m) (dg := 1) (f := d.C ((5 : Int) - d.lt).toNat) (e := d.T ((5 : Int) + 1).toNat) (by omega)
    have q4 : (d.T ((5 : Int) + 1).toNat - d.C ((5 : Int) - d.lt).toNat) / d.m ≤ 1000 := o5
    have q5 := ecode_le ok
    have q6 := nxP_len (us := shF d (iv 0 d.dis) (([] : List V).length : Int))
    have ez := nxA_eq z1 z2 z3
    have q8 : ws3.length = (MstL d (3 : Int).toNat).length := Pr2.len (hS9.phi (show prP K ws3 (MstL d (3 : Int).toNat) ∈ _ by exists "tw mem"))
    have q9 := wd_res ok (by omega) (by omega) d5
    refine k _ l1 l2 l3 l4 l5 l6 ws ((btw d.m 1 (d.C ((5 : Int) - d.lt).toNat) (d.T ((5 : Int) + 1).toNat)).map V.int) ws3 ((ecode d).map V.int) ((iv 0 d.dis).map V.int) (nxP (shF d (iv 0 d.dis) (([] : List V).length : Int)) ++ zs.map V.int) (.ref p5) v2 v3 v4 v5 ts9 _ q9 (by rw [q1]; exact Nat.le_trans q2 (by decide)) (by rw [List.length_map]; omega) w3 (by rw [List.length_map]; omega) (by rw [List.length_map]; omega) (by rw [List.length_append, List.length_map]; omega) ?_
    simp only [List.cons_append, List.nil_append] at hS9
    have s1 := hS9.put_ _ (Ent.dev (show evP K ws _ ∈ _ by exists "tw mem"))
    have s2 := s1.put_ _ (dint_map (K := K) (xs := btw d.m 1 (d.C ((5 : Int) - d.lt).toNat) (d.T ((5 : Int) + 1).toNat)))
    have s3 := s2.put_ _ (Ent.dpr (show prP K ws3 _ ∈ _ by exists "tw mem"))
    have s4 := s3.put_ _ (dint_map (K := K) (xs := ecode d))
    have s5 := s4.put_ _ (dint_map (K := K) (xs := iv 0 d.dis))
    have s6 := s5.put_ (dsP K _ (unl (nxA d))) (by rw [ez]; exact Ent.dni nx_ni)
    have s7 := s6.put_ _ (Ent.flC (show clsP K _ d ∈ _ by exists "tw mem"))
    have s8 := s7.put_ _ (Ent.flT (Ent.mem (show tuF K _ [.int (d.C ((4 : Int) - d.lt).toNat), .int (d.O (4 : Int).toNat)] ∈ _ by exists "tw mem")) (Ent.dcons Ent.dint (Ent.done Ent.dint)))
    clear s1 s2 s3 s4 s5 s6 s7 hS9
    exists "tw rp"
theorem sc_law_below : FnScope ["_law_d", "_law_limit", "_law_result"] ["_law_d", "_law_limit"] (defScope s_law_below) := ⟨rfl, rfl, rfl, by decide +kernel, rfl, by decide +kernel, by decide +kernel⟩
theorem D_law_below (T : Hd K mg) : Df P w K mg base CX0 1 "_law_below" ["_law_d", "_law_limit"] spBelow := by
  refine mk_Df T.g_law_below T.f_law_below (fun _ _ _ _ _ _ us hl => match us, hl with | [_, _], _ => rfl) fun fd F => ?_
  refine F.ok sc_law_below (fun vs H Q E h => ?_) (fun cdv A outer s H vs Q E hr h => ?_)
  · obtain ⟨_, _, _, _, _, _, rfl, _⟩ := h
    rfl
  · obtain ⟨F1, L1, L2, d, D, l, rfl, hl0, hl1, ⟨sd, c, bs, rfl, s0, s1, c0, b0, bl⟩, hp, hS, k⟩ := h
    have hS := hS.pull hp
    refine ⟨_, (PSs.nox (pss_cons (ps_if (PW.pt (pw_and (q_cmp (o_eq K hr.units) (d_ix K (pv 0) pe_int (fun _ _ => rfl)) pe_int) (pw_and1 (q_cmp o_gt (pe_callB (c_len (K := K) rfl) rfl T.b_len bt_len (pa_cons (pv 0) pa_nil)) pe_int)))) (pss_one (ps_asg (d_bm K PySem.F.plainAttrs_list PySem.F.slot_list_pop PySem.F.type_list_pop mt_popAt (pv 0) (pa_cons pe_int pa_nil)) (pg_sub (pv 0) pe_int set_list))) pss_nil) (pss_cons (ps_if (q_cmp o_gt (d_ix K (pv 0) pe_int (fun _ _ => rfl)) pe_int) (pss_cons (ps_set (i := 2) sc_law_below.nd rfl (Or.inl rfl) (d_mod (d_ix K (pv 0) pe_int (fun _ _ => rfl)) (pv 1))) (pss_cons (ps_asg (d_div (d_ix K (pv 0) pe_int (fun _ _ => rfl)) (pv 1)) (pg_sub (pv 0) pe_int set_list)) (pss_one (ps_ret (pv 2))))) pss_nil) (pss_cons (ps_asg (d_mod (d_add K (d_mul K (d_ix K (pv 0) pe_int (fun _ _ => rfl)) pe_int) pe_int) pe_int) (pg_sub (pv 0) pe_int set_list)) (pss_one (ps_ret (d_mod (d_div (d_ix K (pv 0) pe_int (fun _ _ => rfl)) pe_int) (pv 1)))))))), ?_⟩
    refine r_start (u := [some (.ref d), some (.int l), none]) rfl ?_
    clear hr F T cdv A outer s hp
    have em : ∀ x : Int, 0 ≤ x % l ∧ x % l < l := fun x => ⟨Int.emod_nonneg _ (by omega), Int.emod_lt_of_pos _ hl0⟩
    have ed : ∀ x : Int, 0 ≤ x → 0 ≤ x / l := fun x hx => Int.ediv_nonneg hx (by omega)
    rcases bs with _ | ⟨b, bs⟩ <;> simp only [List.map_cons, List.map_nil] at hS <;> exists "go"
    all_goals refine k _ _ _ (em _).1 (em _).2 ?_ (by assumption)
    · exact ⟨_, c, [], rfl, by omega, by omega, c0, b0, bl⟩
    · exact ⟨sd, _, [], rfl, s0, s1, ed _ c0, b0, bl⟩
    · have hb := b0 b List.mem_cons_self
      exact ⟨sd, _, bs, rfl, s0, s1, ed _ hb, fun x hx => b0 x (List.mem_cons_of_mem _ hx), by simp only [List.length_cons] at bl; omega⟩
    · have hb := b0 b List.mem_cons_self
      exact ⟨_, b, bs, rfl, by omega, by omega, hb, fun x hx => b0 x (List.mem_cons_of_mem _ hx), by simp only [List.length_cons] at bl; omega⟩
    · exact ⟨sd, _, b :: bs, rfl, s0, s1, ed _ c0, b0, bl⟩
theorem sc_law_pattern : FnScope ["_law_d", "_law_most", "_law_high", "_law_k"] ["_law_d", "_law_most"] (defScope s_law_pattern) := ⟨rfl, rfl, rfl, by decide +kernel, rfl, by decide +kernel, by decide +kernel⟩
theorem D_law_pattern (T : Hd K mg) : Df P w K mg base CX0 2 "_law_pattern" ["_law_d", "_law_most"] (spPattern K) := by
  refine mk_Df T.g_law_pattern T.f_law_pattern (fun _ _ _ _ _ _ us hl => match us, hl with | [_, _], _ => rfl) fun fd F => ?_
  refine F.ok sc_law_pattern (fun vs H Q E h => ?_) (fun cdv A outer s H vs Q E hr h => ?_)
  · obtain ⟨_, _, _, _, _, _, rfl, _⟩ := h
    rfl
  · obtain ⟨F1, L1, L2, d, D, m, rfl, m0, m1, hD, hp, hS, k⟩ := h
    have hS := hS.pull hp
    refine ⟨_, (PSs.nox (pss_cons (ps_set (i := 2) sc_law_pattern.nd rfl (Or.inr rfl) (d_ix K (pe_lst (pa_cons pe_int (pa_cons pe_int (pa_cons pe_int pa_nil)))) (d_call (D_law_below (K := K) (mg := mg) (base := base) T) pass0 (hr.mono (by first | decide | omega)) (pa_cons (pv 0) (pa_cons pe_int pa_nil))) (fun _ _ => rfl))) (pss_one (ps_ret (pe_callTy (c_tuple (K := K) rfl) rfl T.b_tuple bt_tuple (pa_cons (pe_lc (own := [("_law_k", 3)]) rfl sc_law_pattern.nd (pi_range1 rfl T.b_range (pa_cons (d_add K pe_int (d_call (D_law_below (K := K) (mg := mg) (base := base) T) pass0 (hr.mono (by first | decide | omega)) (pa_cons (pv 0) (pa_cons (pv 1) pa_nil)))) pa_nil)) (blkOk_by (own := [("_law_k", 3)]) (by show blkC ["_law_d", "_law_most", "_law_high", "_law_k"] (defScope s_law_pattern) _ _ = true; decide +kernel)) (fun _ _ _ _ _ => (pg_name (i := 3) sc_law_pattern.nd rfl (by first | exact Or.inl rfl | exact Or.inr rfl))) (fun _ _ _ _ _ => pts_nil) (fun _ _ _ _ _ => (d_call (D_law_below (K := K) (mg := mg) (base := base) T) pass0 (hr.mono (by first | decide | omega)) (pa_cons (pv 0) (pa_cons (pv 2) pa_nil))))) pa_nil)))))), ?_⟩
    refine r_start (u := [some (.ref d), some (.int m), none, none]) rfl ?_
    clear hr F T cdv A outer s hp
    exists "go"
    rename_i l3 _ _ _ _ _ _ _ _ _
    refine x_ix3R 2 10 (by exists "tw sql") (by omega) (by omega) (by omega) (by omega) (by omega) fun v v0 v1 => ?_
    exists "go"
    rename_i r D3 H3 r0 r1 hD3 hS3
    refine k_lcR (by exists "tw wip") hS3 (fun l i H => ∃ (xs : List Int) (D : List V), xs.length = i ∧ (∀ x ∈ xs, 0 ≤ x ∧ x ≤ 9) ∧ DOK D ∧ S F1 ((d, .lst D) :: (l, .lst (xs.map V.int)) :: (l3, .lst [.int 2, .int 3, .int 10]) :: L2) H) ?_ ?_ ?_
    · intro l H hS
      exact ⟨[], _, rfl, (fun _ z => nomatch z), hD3, hS.perm (List.Perm.swap _ _ _)⟩
    · rintro l i H hi ⟨xs, D, n0, n1, hD, hS⟩
      exists "go"
      rename_i r4 D4 H4 x0 x1 hD4 hS4 H5 hS5
      refine ⟨xs ++ [r4], _, by simp; omega, fun b hb => ?_, hD4, ?_⟩
      · rcases List.mem_append.mp hb with hb | hb
        · exact n1 b hb
        · rw [List.mem_singleton.mp hb]; omega
      · rw [List.map_append]
        assumption
    · rintro l H ⟨xs, D, n0, n1, hD, hS⟩
      exists "go"
      exact k _ xs _ _ (by omega) (by omega) n1 hD (((by assumption : S (cel _ _ :: F1) _ _).put_ (tuF K _ (xs.map V.int)) (by exists "tw ent")).mono (fun f hf => by
        rcases List.mem_cons.mp hf with rfl | hf
        · exact List.mem_cons_self
        · exists "tw mem") (by exists "tw sub"))
theorem sc_law_small : FnScope ["_law_d"] ["_law_d"] (defScope s_law_small) := ⟨rfl, rfl, rfl, by decide +kernel, rfl, by decide +kernel, by decide +kernel⟩
theorem D_law_small (T : Hd K mg) : Df P w K mg base CX0 3 "_law_small" ["_law_d"] (spSmall K) := by
  refine mk_Df T.g_law_small T.f_law_small (fun _ _ _ _ _ _ us hl => match us, hl with | [_], _ => rfl) fun fd F => ?_
  refine F.ok sc_law_small (fun vs H Q E h => ?_) (fun cdv A outer s H vs Q E hr h => ?_)
  · obtain ⟨_, _, _, _, _, rfl, _⟩ := h
    rfl
  · obtain ⟨F1, L1, L2, d, D, rfl, hD, hp, hS, k⟩ := h
    have hS := hS.pull hp
    refine ⟨_, (PSs.nox (pss_one (ps_ret (pe_tup (pa_cons (d_add K pe_int (d_call (D_law_below (K := K) (mg := mg) (base := base) T) pass0 (hr.mono (by first | decide | omega)) (pa_cons (pv 0) (pa_cons pe_int pa_nil)))) (pa_cons (d_call (D_law_pattern (K := K) (mg := mg) (base := base) T) pass0 (hr.mono (by first | decide | omega)) (pa_cons (pv 0) (pa_cons pe_int pa_nil))) (pa_cons (d_call (D_law_pattern (K := K) (mg := mg) (base := base) T) pass0 (hr.mono (by first | decide | omega)) (pa_cons (pv 0) (pa_cons pe_int pa_nil))) (pa_cons (d_call (D_law_below (K := K) (mg := mg) (base := base) T) pass0 (hr.mono (by first | decide | omega)) (pa_cons (pv 0) (pa_cons pe_int pa_nil))) pa_nil)))))))), ?_⟩
    refine r_start (u := [some (.ref d)]) rfl ?_
    clear hr F T cdv A outer s

    exists "go"
    rename_i r0 D0 H0 b0 b1 _ _ p1 xs1 D1 H1 a0 a1 a2 hD1 hS1 p2 xs2 D2 H2 c0 c1 c2 hD2 hS2 r3 D3 H3 e0 e1 hD3 hS3 p3 H4 hS4
    exact k p3 ⟨2 + r0, xs1, xs2, r3⟩ _ _ ⟨by show 2 ≤ 2 + r0; omega, by show 2 + r0 ≤ 10000; omega, a0, by show xs1.length ≤ 12; omega, a2, c0, by show xs2.length ≤ 12; omega, c2, e0, by show r3 ≤ 99; omega⟩
      (by show xs1.length ≤ 3; omega) (by show xs2.length ≤ 3; omega) (by show 2 + r0 ≤ 10; omega) (by show r3 ≤ 5; omega) hD3
      ((s_parts (h := ⟨2 + r0, xs1, xs2, r3⟩) (pt := p1) (pc := p2) hS4 (show Ent _ (tuF K p3 [.int (2 + r0), .ref p1, .ref p2, .int r3]) by exists "tw ent") (show Ent _ (tuF K p1 (xs1.map V.int)) by exists "tw ent") (show Ent _ (tuF K p2 (xs2.map V.int)) by exists "tw ent")).sub (by exists "tw sub") (by exists "tw sub"))

theorem sc_law : FnScope ["_law_script", "_law_d", "_law_k", "_law_halls", "_law_first", "_law_some", "_law_kept", "_law_results_here", "_law_benches", "_law_watchers", "_law_hall_here", "_law_one"] ["_law_script"] (defScope s_law) := ⟨rfl, rfl, rfl, by decide +kernel, rfl, by decide +kernel, by decide +kernel⟩
theorem ok_law (T : Hd K mg) {fd : FuncData} (F : FunD K "law" "law" (defArgs s_law) (defBody s_law) (defScope s_law) [] [] (He.ga K "law") fd) : FnOk P w K mg base CX0 12 (He.ga K "law") fd ["_law_script"] (spLawT K [tabF K "first_clash"]) := by
  refine F.ok sc_law (fun vs H Q E h => ?_) (fun cdv A outer s H vs Q E hr h => ?_)
  · obtain ⟨_, _, rfl, _⟩ := h
    rfl
  · obtain ⟨a, ns, rfl, h63, hnd, hT, hq, k⟩ := h
    have hS : S [tcP "first_clash.<locals>.<lambda>" #[], liF K a (ns.map V.int), allP _] [(tabF K "first_clash", .tbl #[])] H := ((s_tab hnd hT).put_ (liF K a (ns.map V.int)) (fun E e => sqL_mono (e (allP _) List.mem_cons_self) (sqL_wo hT hq))).put_ (tcP "first_clash.<locals>.<lambda>" #[]) (fun _ _ => tcP_nil)
    refine ⟨_, (PSs.nox (pss_cons (ps_set (i := 1) sc_law.nd rfl (Or.inr rfl) (d_call (D_law_random (K := K) (mg := mg) (base := base) T) pass0 (hr.mono (by first | decide | omega)) (pa_cons (pv 0) (pa_cons pe_int pa_nil)))) (pss_cons (ps_setLc (i := 3) rfl sc_law.nd rfl rfl (sw_true rfl rfl rfl (by decide +kernel)) (pi_range1 rfl T.b_range (pa_cons pe_int pa_nil)) (blkOk_by (own := [("_law_k", 2)]) (by show blkC ["_law_script", "_law_d", "_law_k", "_law_halls", "_law_first", "_law_some", "_law_kept", "_law_results_here", "_law_benches", "_law_watchers", "_law_hall_here", "_law_one"] (defScope s_law) _ _ = true; decide +kernel)) (fun _ _ _ _ _ => (pg_name (i := 2) sc_law.nd rfl (by first | exact Or.inl rfl | exact Or.inr rfl))) (fun _ _ _ _ _ => pts_nil) (fun _ _ _ _ _ => (d_call (D_law_hall (K := K) (mg := mg) (base := base) T) pass0 (hr.mono (by first | decide | omega)) (pa_cons (d_call (D_law_small (K := K) (mg := mg) (base := base) T) pass0 (hr.mono (by first | decide | omega)) (pa_cons (pv 1) pa_nil)) pa_nil)))) (pss_cons (ps_setLc (i := 4) rfl sc_law.nd rfl rfl (sw_true rfl rfl rfl (by decide +kernel)) (d_ilist K (pv 3)) (blkOk_by (own := [("_law_hall_here", 10)]) (by show blkC ["_law_script", "_law_d", "_law_k", "_law_halls", "_law_first", "_law_some", "_law_kept", "_law_results_here", "_law_benches", "_law_watchers", "_law_hall_here", "_law_one"] (defScope s_law) _ _ = true; decide +kernel)) (fun _ _ _ _ _ => (pg_name (i := 10) sc_law.nd rfl (by first | exact Or.inl rfl | exact Or.inr rfl))) (fun _ _ _ _ _ => pts_nil) (fun _ _ _ _ _ => (d_call (D_law_results (K := K) (mg := mg) (base := base) T) pass0 (hr.mono (by first | decide | omega)) (pa_cons (pv 10) pa_nil)))) (pss_cons (ps_setLc (i := 6) rfl sc_law.nd rfl rfl (sw_true rfl rfl rfl (by decide +kernel)) (d_ilist K (pv 4)) (blkOk_by (own := [("_law_one", 11)]) (by show blkC ["_law_script", "_law_d", "_law_k", "_law_halls", "_law_first", "_law_some", "_law_kept", "_law_results_here", "_law_benches", "_law_watchers", "_law_hall_here", "_law_one"] (defScope s_law) _ _ = true; decide +kernel)) (fun _ _ _ _ _ => (pg_name (i := 11) sc_law.nd rfl (by first | exact Or.inl rfl | exact Or.inr rfl))) (fun _ _ _ _ _ => pts_nil) (fun _ _ _ _ _ => (pe_lc (own := [("_law_some", 5)]) rfl sc_law.nd (d_ilist K (pv 11)) (blkOk_by (own := [("_law_some", 5)]) (by kernel_rfl)) (fun _ _ _ _ _ => (pg_name (i := 5) sc_law.nd rfl (by first | exact Or.inl rfl | exact Or.inr rfl))) (fun _ _ _ _ _ => pts_nil) (fun _ _ _ _ _ => (pe_ifExp (pt_val (pe_callB (c_isi (K := K) rfl) rfl T.b_isinstance bt_isinstance (pa_cons (pv 5) (pa_cons (d_ty rfl T.b_list bt_list) pa_nil)))) (pe_callTy (c_list (K := K) rfl) rfl T.b_list bt_list (pa_cons (pv 5) pa_nil)) (pv 5)))))) (pss_cons (ps_for PassesOwn.never rfl (d_ilist K (pv 4)) (pg_name (i := 7) sc_law.nd rfl (Or.inl rfl)) (pss_one (ps_for PassesOwn.never rfl (d_ilist K (pv 7)) (pg_name (i := 5) sc_law.nd rfl (Or.inl rfl)) (pss_one (ps_if (pt_val (pe_callB (c_isi (K := K) rfl) rfl T.b_isinstance bt_isinstance (pa_cons (pv 5) (pa_cons (d_ty rfl T.b_list bt_list) pa_nil)))) (pss_one (ps_expr (d_bm K PySem.F.plainAttrs_list PySem.F.slot_list_append PySem.F.type_list_append mt_append (pv 5) (pa_cons pe_int pa_nil)))) pss_nil))))) (pss_cons (ps_for PassesOwn.never rfl (d_ilist K (pe_lst (pa_cons pe_int (pa_cons pe_int (pa_cons pe_int (pa_cons pe_int pa_nil)))))) (pg_name (i := 2) sc_law.nd rfl (Or.inl rfl)) (pss_one (ps_if (pt_not (pt_val (d_call (D_law_equal (K := K) (mg := mg) (base := base) T) pass0 (hr.mono (by first | decide | omega)) (pa_cons (d_call (D_law_results (K := K) (mg := mg) (base := base) T) pass0 (hr.mono (by first | decide | omega)) (pa_cons (d_ix K (pv 3) (pv 2) (fun _ _ => rfl)) pa_nil)) (pa_cons (d_ix K (pv 6) (pv 2) (fun _ _ => rfl)) pa_nil))))) (pss_one (ps_ret d_bool)) pss_nil))) (pss_cons (ps_set (i := 8) sc_law.nd rfl (Or.inl rfl) (pe_lst (pa_cons (d_make (D_Bench_init (K := K) (mg := mg) (base := base) T) pass0 (hr.mono (by first | decide | omega)) (pa_cons (d_ix K (pv 3) pe_int (fun _ _ => rfl)) pa_nil)) (pa_cons (d_make (D_Bench_init (K := K) (mg := mg) (base := base) T) pass0 (hr.mono (by first | decide | omega)) (pa_cons (d_ix K (pv 3) pe_int (fun _ _ => rfl)) pa_nil)) pa_nil)))) (pss_cons (ps_expr (d_meth (D_Bench_set_modulus (K := K) (mg := mg) (base := base) T) pass0 (hr.mono (by first | decide | omega)) (d_ix K (pv 8) pe_int (fun _ _ => rfl)) (pa_cons pe_int pa_nil))) (pss_cons (ps_set (i := 9) sc_law.nd rfl (Or.inl rfl) (pe_lst (pa_cons (d_make (D_Watcher_init (K := K) (mg := mg) (base := base) T) pass0 (hr.mono (by first | decide | omega)) (pa_cons (d_ix K (pv 3) pe_int (fun _ _ => rfl)) pa_nil)) (pa_cons (d_make (D_Watcher_init (K := K) (mg := mg) (base := base) T) pass0 (hr.mono (by first | decide | omega)) (pa_cons (d_ix K (pv 3) pe_int (fun _ _ => rfl)) pa_nil)) pa_nil)))) (pss_cons (ps_expr (d_meth (D_Watcher_see (K := K) (mg := mg) (base := base) T) pass0 (hr.mono (by first | decide | omega)) (d_ix K (pv 9) pe_int (fun _ _ => rfl)) (pa_cons (d_call (D_display (K := K) (mg := mg) (base := base) T) pass0 (hr.mono (by first | decide | omega)) (pa_cons (d_ix K (pv 3) pe_int (fun _ _ => rfl)) (pa_cons pe_int pa_nil))) pa_nil))) (pss_cons (ps_expr (d_bm K PySem.F.plainAttrs_list PySem.F.slot_list_append PySem.F.type_list_append mt_append (d_prop (D_Watcher_history (K := K) (mg := mg) (base := base) T) pass0 (hr.mono (by first | decide | omega)) (d_ix K (pv 9) pe_int (fun _ _ => rfl))) (pa_cons (d_sub pe_int pe_int) pa_nil))) (pss_cons (ps_if (q_cmp (o_in K) (d_sub pe_int pe_int) (d_prop (D_Watcher_history (K := K) (mg := mg) (base := base) T) pass0 (hr.mono (by first | decide | omega)) (d_ix K (pv 9) pe_int (fun _ _ => rfl)))) (pss_one (ps_ret d_bool)) pss_nil) (pss_one (ps_ret (pe_and (d_cmp (o_eq K hr.units) (d_prop (D_Bench_text (K := K) (mg := mg) (base := base) T) pass0 (hr.mono (by first | decide | omega)) (d_ix K (pv 8) pe_int (fun _ _ => rfl))) (d_prop (D_Hall_text (K := K) (mg := mg) (base := base) T) pass0 (hr.mono (by first | decide | omega)) (d_ix K (pv 3) pe_int (fun _ _ => rfl)))) (pe_and (d_cmp (o_eq K hr.units) (d_prop (D_Bench_operations (K := K) (mg := mg) (base := base) T) pass0 (hr.mono (by first | decide | omega)) (d_ix K (pv 8) pe_int (fun _ _ => rfl))) (pe_lst pa_nil)) (pe_one (d_cmp (o_eq K hr.units) (d_prop (D_Watcher_history (K := K) (mg := mg) (base := base) T) pass0 (hr.mono (by first | decide | omega)) (d_ix K (pv 9) pe_int (fun _ _ => rfl))) (pe_lst pa_nil)))))))))))))))))))), ?_⟩
    refine r_start (u := [some (.ref a), none, none, none, none, none, none, none, none, none, none, none]) rfl ?_
    have hcH := T.c_Hall; have hn_modulus := T.n_modulus; have hn_takes := T.n_takes; have hn_calls := T.n_calls; have hn_lateness := T.n_lateness; have hn_length := T.n_length; have hn_taken_by := T.n_taken_by; have hn_called_by := T.n_called_by
    clear hr F T cdv A outer s hT hnd
    exists "go"
    refine k_lcRu [.int 0, .int 1] (by rfl) (by exists "tw wip") (by assumption) fun lh H hS => ?_
    exists "gq"
    rename_i d D0 H0 hD0 hS0 p0 h0 D1 H1 ok0 t0 c0 m0 lt0 hD1 hS1 x0 H2 hS2 H3 hS3 p1 h1 D2 H4 ok1 t1 c1 m1 lt1 hD2 hS4 x1 H5 hS5 H6 hS6
    simp only [List.nil_append, List.cons_append] at hS6
    have S0 : S [hallP K x0 h0, hallP K x1 h1, tcP lamQ #[]] [(lh, .lst [.ref x0, .ref x1]), (tabF K "first_clash", .tbl #[])] H6 := by exists "tw rp"
    clear hS hS0 hS1 hS2 hS3 hS4 hS5 hS6 hD0 hD1 hD2 lt0 lt1
    refine k_lcLu (by exists "tw wip") (by assumption) (by exists "tw sql") fun lr H hS => ?_
    exists "gq"
    refine c_results (d := h0) (by assumption) (by exists "tw mem") ok0 t0 c0 m0 (by exists "tw mem") (by exists "tw put") fun l0 a0 b0 c0' d0 e0 f0 wa0 wb0 wc0 wd0 we0 wf0 va0 vb0 vc0 vd0 ve0 ts0 H q0d na0 nb0 nc0 nd0 ne0 nf0 hS => ?_
    exists "gq"
    refine c_results (d := h1) (by assumption) (by exists "tw mem") ok1 t1 c1 m1 (by exists "tw mem") (by exists "tw put") fun l1 a1 b1 c1' d1 e1 f1 wa1 wb1 wc1 wd1 we1 wf1 va1 vb1 vc1 vd1 ve1 ts1 H q1d na1 nb1 nc1 nd1 ne1 nf1 hS => ?_
    exists "gq"
    rename_i H7 hS7
    simp only [List.nil_append, List.cons_append] at hS7
    clear hS S0
    refine k_lcLu (by exists "tw wip") (by assumption) (by exists "tw sql") fun lk H hS => ?_
    exists "go"
    refine k_lcLu (by exists "tw wip") (by assumption) (by exists "tw sql") fun lj H hS => ?_
    exists "go"
    rename_i q1 H8 hS8 H9 hS9 q2 H10 hS10 H11 hS11 q3 H12 hS12 H13 hS13 q4 H14 hS14 H15 hS15 H16 hS16 H17 hS17 H18 hS18 H19 hS19 H20 hS20 H21 hS21 q5 H22 hS22 H23 hS23 q6 H24 hS24 H25 hS25 H26 hS26
    simp only [List.nil_append, List.cons_append] at hS26
    have hS27 := res_frz (d := h0) (hS26.pa (L' := (q1, .lst wa0) :: (q2, .lst wb0) :: (q3, .lst wc0) :: (q4, .lst wd0) :: (q5, .lst we0) :: (q6, .lst wf0) :: (lj, .lst [.ref q1, .ref q2, .ref q3, .ref q4, va0, vb0, vc0, vd0, ve0, .str (htext h0), .ref q5, .ref q6]) :: [(lk, .lst [.ref lj]), 
      (l1, .lst [.ref a1, .ref b1, .ref c1', .ref d1, va1, vb1, vc1, vd1, ve1, .str (htext h1), .ref e1, .ref f1]), (a1, .lst wa1), (b1, .lst wb1), (c1', .lst wc1), (d1, .lst wd1), (e1, .lst we1), (f1, .lst wf1), (tabF K "first_clash", .tbl ts1),
      (l0, .lst [.ref a0, .ref b0, .ref c0', .ref d0, va0, vb0, vc0, vd0, ve0, .str (htext h0), .ref e0, .ref f0]), (a0, .lst wa0), (b0, .lst wb0), (c0', .lst wc0), (d0, .lst wd0), (e0, .lst we0), (f0, .lst wf0), (lr, .lst [.ref l0, .ref l1]), (lh, .lst [.ref x0, .ref x1])]) (by exists "tw pa"))
      (by exists "tw mem") (by exists "tw mem") (by exists "tw mem") (by exists "tw mem") (by exists "tw mem") (by exists "tw mem") (by exists "tw mem") (by exists "tw mem") (by exists "tw mem") (by exists "tw mem") (by exists "tw mem")
    clear hS7 hS hS8 hS9 hS10 hS11 hS12 hS13 hS14 hS15 hS16 hS17 hS18 hS19 hS20 hS21 hS22 hS23 hS24 hS25 hS26
    refine k_lcLu (by exists "tw wip") (by assumption) (by exists "tw sql") fun li H hS => ?_
    exists "go"
    rename_i q1 H8 hS8 H9 hS9 q2 H10 hS10 H11 hS11 q3 H12 hS12 H13 hS13 q4 H14 hS14 H15 hS15 H16 hS16 H17 hS17 H18 hS18 H19 hS19 H20 hS20 H21 hS21 q5 H22 hS22 H23 hS23 q6 H24 hS24 H25 hS25 H26 hS26
    simp only [List.nil_append, List.cons_append] at hS26
    have hS28 := res_frz (d := h1) (hS26.pa (L' := (q1, .lst wa1) :: (q2, .lst wb1) :: (q3, .lst wc1) :: (q4, .lst wd1) :: (q5, .lst we1) :: (q6, .lst wf1) :: (li, .lst [.ref q1, .ref q2, .ref q3, .ref q4, va1, vb1, vc1, vd1, ve1, .str (htext h1), .ref q5, .ref q6]) :: [(lk, .lst [.ref lj, .ref li]), 
      (l1, .lst [.ref a1, .ref b1, .ref c1', .ref d1, va1, vb1, vc1, vd1, ve1, .str (htext h1), .ref e1, .ref f1]), (a1, .lst wa1), (b1, .lst wb1), (c1', .lst wc1), (d1, .lst wd1), (e1, .lst we1), (f1, .lst wf1), (tabF K "first_clash", .tbl ts1),
      (l0, .lst [.ref a0, .ref b0, .ref c0', .ref d0, va0, vb0, vc0, vd0, ve0, .str (htext h0), .ref e0, .ref f0]), (a0, .lst wa0), (b0, .lst wb0), (c0', .lst wc0), (d0, .lst wd0), (e0, .lst we0), (f0, .lst wf0), (lr, .lst [.ref l0, .ref l1]), (lh, .lst [.ref x0, .ref x1])]) (by exists "tw pa"))
      (by exists "tw mem") (by exists "tw mem") (by exists "tw mem") (by exists "tw mem") (by exists "tw mem") (by exists "tw mem") (by exists "tw mem") (by exists "tw mem") (by exists "tw mem") (by exists "tw mem") (by exists "tw mem")
    clear hS27 hS hS8 hS9 hS10 hS11 hS12 hS13 hS14 hS15 hS16 hS17 hS18 hS19 hS20 hS21 hS22 hS23 hS24 hS25 hS26
    have S1 : S [dtP K (.ref li) (.list (ResA h1)), dtP K (.ref lj) (.list (ResA h0)), hallP K x0 h0, hallP K x1 h1, tcP lamQ ts1, flP K va1 (.tuple [.int (h1.C ((4 : Int) - h1.lt).toNat), .int (h1.O (4 : Int).toNat)]), flP K vb1 (clsA h1), flP K vc1 (mostA h1), flP K vd1 (timA h1 3), flP K ve1 (longA h1), flP K va0 (.tuple [.int (h0.C ((4 : Int) - h0.lt).toNat), .int (h0.O (4 : Int).toNat)]), flP K vb0 (clsA h0), flP K vc0 (mostA h0), flP K vd0 (timA h0 3), flP K ve0 (longA h0)]
      [(lr, .lst [.ref l0, .ref l1]), (lh, .lst [.ref x0, .ref x1]), (lk, .lst [.ref lj, .ref li]), (tabF K "first_clash", .tbl ts1), 
      (l0, .lst [.ref a0, .ref b0, .ref c0', .ref d0, va0, vb0, vc0, vd0, ve0, .str (htext h0), .ref e0, .ref f0]), (a0, .lst wa0), (b0, .lst wb0), (c0', .lst wc0), (d0, .lst wd0), (e0, .lst we0), (f0, .lst wf0), 
      (l1, .lst [.ref a1, .ref b1, .ref c1', .ref d1, va1, vb1, vc1, vd1, ve1, .str (htext h1), .ref e1, .ref f1]), (a1, .lst wa1), (b1, .lst wb1), (c1', .lst wc1), (d1, .lst wd1), (e1, .lst we1), (f1, .lst wf1)] H26 := by exists "tw rp"
    clear hS28
    refine k_forLu (by exists "tw sql") ?_
    exists "go"
    refine k_forLu (by exists "tw sql") ?_
    exists "go"
    refine k_forLu (by exists "tw sql") ?_
    exists "go"
    rename_i l9 H30 hS30
    have S2 : S [dtP K (.ref li) (.list (ResA h1)), dtP K (.ref lj) (.list (ResA h0)), hallP K x0 h0, hallP K x1 h1, tcP lamQ ts1] ((l9, .lst [.int 1, .int 0, .int 0, .int 1]) :: [(lh, .lst [.ref x0, .ref x1]), (lk, .lst [.ref lj, .ref li]), (tabF K "first_clash", .tbl ts1)]) H30 := by exists "tw rp"
    clear hS30 S1
    refine k_list [.int 1, .int 0, .int 0, .int 1] (fun i σ H => ∃ v2 v5 v7 v8 v9 v10 v11 ts, σ = [some (.ref a), some (.ref d), v2, some (.ref lh), some (.ref lr), v5, some (.ref lk), v7, v8, v9, v10, v11] ∧ S [dtP K (.ref li) (.list (ResA h1)), dtP K (.ref lj) (.list (ResA h0)), hallP K x0 h0, hallP K x1 h1, tcP lamQ ts] ((l9, .lst [.int 1, .int 0, .int 0, .int 1]) :: [(lh, .lst [.ref x0, .ref x1]), (lk, .lst [.ref lj, .ref li]), (tabF K "first_clash", .tbl ts)]) H) ⟨_, _, _, _, _, _, _, ts1, rfl, S2⟩ (fun i σ H _ hh => by obtain ⟨v2, v5, v7, v8, v9, v10, v11, ts, rfl, hS⟩ := hh; exists "tw sql") ?_ ?_
    · clear S2
      rintro i y σ H hy ⟨v2, v5, v7, v8, v9, v10, v11, ts, rfl, hS⟩
      have hy2 : y = .int 1 ∨ y = .int 0 := by
        have := List.mem_of_getElem? hy
        simp only [List.mem_cons, List.not_mem_nil, or_false] at this
        rcases this with z | z | z | z
        · exact .inl z
        · exact .inr z
        · exact .inr z
        · exact .inl z
      clear hy
      rcases hy2 with rfl | rfl
      · exists "go"
        refine c_results (d := h1) (by assumption) (by exists "tw mem") ok1 t1 c1 m1 (by exists "tw mem") (by exists "tw put") fun l a b c d' e f wa wb wc wd' we wf va vb vc vd ve ts2 H qd na nb nc nd ne nf hS => ?_
        replace hS := res_frz (d := h1) (hS.pa (L' := (a, .lst wa) :: (b, .lst wb) :: (c, .lst wc) :: (d', .lst wd') :: (e, .lst we) :: (f, .lst wf) :: (l, .lst [.ref a, .ref b, .ref c, .ref d', va, vb, vc, vd, ve, .str (htext h1), .ref e, .ref f]) :: [(tabF K "first_clash", .tbl ts2), (l9, .lst [.int 1, .int 0, .int 0, .int 1]), (lh, .lst [.ref x0, .ref x1]), (lk, .lst [.ref lj, .ref li])]) (by exists "tw pa"))
          (by exists "tw mem") (by exists "tw mem") (by exists "tw mem") (by exists "tw mem") (by exists "tw mem") (by exists "tw mem") (by exists "tw mem") (by exists "tw mem") (by exists "tw mem") (by exists "tw mem") (by exists "tw mem")
        exists "go"
        refine c_equalD (d := .list (ResA h1)) hS (Ent.mem (by exists "tw mem")) (Ent.mem (by exists "tw mem")) (Nat.le_trans qd.2 (by decide)) qd.1 fun H hS => ?_
        exists "go"
        exact ⟨_, _, _, _, _, _, _, ts2, rfl, by exists "tw rp"⟩
      · exists "go"
        refine c_results (d := h0) (by assumption) (by exists "tw mem") ok0 t0 c0 m0 (by exists "tw mem") (by exists "tw put") fun l a b c d' e f wa wb wc wd' we wf va vb vc vd ve ts2 H qd na nb nc nd ne nf hS => ?_
        replace hS := res_frz (d := h0) (hS.pa (L' := (a, .lst wa) :: (b, .lst wb) :: (c, .lst wc) :: (d', .lst wd') :: (e, .lst we) :: (f, .lst wf) :: (l, .lst [.ref a, .ref b, .ref c, .ref d', va, vb, vc, vd, ve, .str (htext h0), .ref e, .ref f]) :: [(tabF K "first_clash", .tbl ts2), (l9, .lst [.int 1, .int 0, .int 0, .int 1]), (lh, .lst [.ref x0, .ref x1]), (lk, .lst [.ref lj, .ref li])]) (by exists "tw pa"))
          (by exists "tw mem") (by exists "tw mem") (by exists "tw mem") (by exists "tw mem") (by exists "tw mem") (by exists "tw mem") (by exists "tw mem") (by exists "tw mem") (by exists "tw mem") (by exists "tw mem") (by exists "tw mem")
        exists "go"
        refine c_equalD (d := .list (ResA h0)) hS (Ent.mem (by exists "tw mem")) (Ent.mem (by exists "tw mem")) (Nat.le_trans qd.2 (by decide)) qd.1 fun H hS => ?_
        exists "go"
        exact ⟨_, _, _, _, _, _, _, ts2, rfl, by exists "tw rp"⟩
    · clear S2
      rintro σ H ⟨v2, v5, v7, v8, v9, v10, v11, ts, rfl, hS⟩
      exists "go"
      rename_i b0 dx0 H40 hS40 lp0 lu0 ds0 H41 hS41 b1 dx1 H42 hS42 lp1 lu1 ds1 H43 hS43 lb H44 hS44
      have S3 := hS44.put_ (ensP K [] []) (Ent.all fun _ => .nil)
      clear hS hS40 hS41 hS42 hS43 hS44
      have p6 := HD.per_small ok0 t0 c0
      obtain ⟨dz, db⟩ := dis_small ok0 p6 m0
      have d5 : h0.dis ≤ 5000 := by omega
      refine c_set (s := ⟨h0, [], []⟩) (bnPre ⟨ok0, (fun e h => nomatch h), (fun e h => nomatch h), Nat.zero_le _⟩ (by exists "tw mem") (by exists "tw mem") (by exists "tw mem") (by exists "tw put") (by exists "tw put") (by exists "tw put")) (by simp) (.m (by decide) (by decide)) S3 fun r hr hh lp lu vp vu H hS => ?_
      clear S3
      exists "go"
      refine c_see (by assumption) (by exists "tw put") (by exists "tw put") (by exists "tw put") (by exists "tw mem") ok0 ni_shown (fun n => ni_lt ok0) (fun s hs => by have := mem_iv.mp hs; omega) (by have := iv_len (a := 0) (b := (h0.dis : Int)); omega) (Nat.zero_le _) (fun z => by
        have : (0 : Int) ∈ flS h0 (iv 0 h0.dis) (([] : List V).length : Int) (Shown h0 0) := List.mem_filter.mpr ⟨mem_iv.mpr ⟨Int.le_refl 0, by omega⟩, decide_eq_true rfl⟩
        rw [z] at this; cases this) fun ls2 H hS => ?_
      exists "go"
      have hfl : ([] ++ [Shown h0 0]).all flatV = true ∧ inV (.int (0 - 1)) ([] ++ [Shown h0 0]) = false := by
        rcases ni_shown (d := h0) (t := 0) with e | ⟨i, e⟩
        · rw [e]; exact ⟨rfl, rfl⟩
        · have := ni_lt ok0 e
          rw [e]
          refine ⟨rfl, ?_⟩
          unfold inV
          simp [eqV]
          omega
      refine x_inFl (by exists "tw sql") rfl hfl.1 hfl.2 ?_
      exists "go"
      refine c_btext (h := x0) (d := h0) (by assumption) (by exists "tw mem") (by exists "tw mem") ok0 fun H hS => ?_
      exists "go"
      refine c_bops (ep := []) (vp := []) (by assumption) (by exists "tw mem") (by exists "tw mem") (by exists "tw mem") (Nat.zero_le _) fun l H hS => ?_
      replace hS : S _ ((l, .lst ([] : List V)) :: _) H := hS
      exists "go"
      refine x_eqLI (xs := []) (ys := []) (show SqL K _ _ [] by exists "tw sql") (show SqL K _ _ [] by exists "tw sql") ?_
      rw [decide_eq_true (rfl : ([] : List Int) = [])]
      exists "go"
      refine x_eqLI (xs := []) (ys := []) (show SqL K _ _ [] by exists "tw sql") (show SqL K _ _ [] by exists "tw sql") ?_
      rw [decide_eq_true (rfl : ([] : List Int) = [])]
      exists "go"
      exact k _
end
def fnL : List He5.DefA := ([⟨fun K => He.fAd K ("is_int_in", none), "is_int_in", "is_int_in", defArgs s_is_int_in, defBody s_is_int_in, defScope s_is_int_in, [], []⟩, ⟨fun K => He.fAd K ("greatest_common", none), "greatest_common", "greatest_common", defArgs s_greatest_common, defBody s_greatest_common, defScope s_greatest_common, [], []⟩, ⟨fun K => He.fAd K ("least_common", none), "least_common", "least_common", defArgs s_least_common, defBody s_least_common, defScope s_least_common, [], []⟩, ⟨fun K => He.fAd K ("check_tick", none), "check_tick", "check_tick", defArgs s_check_tick, defBody s_check_tick, defScope s_check_tick, [], []⟩, ⟨fun K => He.fAd K ("check_entries", none), "check_entries", "check_entries", defArgs s_check_entries, defBody s_check_entries, defScope s_check_entries, [], []⟩, ⟨fun K => He.fAd K ("Hall", some "__init__"), "__init__", "Hall.__init__", defArgs s_Hall_init, defBody s_Hall_init, defScope s_Hall_init, [], []⟩, ⟨fun K => (prA K (He.ga K "Hall") "text").2, "text", "Hall.text", defArgs s_Hall_text, defBody s_Hall_text, defScope s_Hall_text, [], []⟩, ⟨fun K => (prA K (He.ga K "Hall") "period").2, "period", "Hall.period", defArgs s_Hall_period, defBody s_Hall_period, defScope s_Hall_period, [], []⟩, ⟨fun K => (prA K (He.ga K "Hall") "growth").2, "growth", "Hall.growth", defArgs s_Hall_growth, defBody s_Hall_growth, defScope s_Hall_growth, [], []⟩, ⟨fun K => He.fAd K ("Hall", some "taken"), "taken", "Hall.taken", defArgs s_Hall_taken, defBody s_Hall_taken, defScope s_Hall_taken, [], []⟩, ⟨fun K => He.fAd K ("Hall", some "called"), "called", "Hall.called", defArgs s_Hall_called, defBody s_Hall_called, defScope s_Hall_called, [], []⟩, ⟨fun K => He.fAd K ("Hall", some "events"), "events", "Hall.events", defArgs s_Hall_events, defBody s_Hall_events, defScope s_Hall_events, [], []⟩, ⟨fun K => He.fAd K ("open_range", none), "open_range", "open_range", defArgs s_open_range, defBody s_open_range, defScope s_open_range, [], []⟩, ⟨fun K => He.fAd K ("open_tickets", none), "open_tickets", "open_tickets", defArgs s_open_tickets, defBody s_open_tickets, defScope s_open_tickets, [], []⟩, ⟨fun K => He.fAd K ("count_open", none), "count_open", "count_open", defArgs s_count_open, defBody s_count_open, defScope s_count_open, [], []⟩, ⟨fun K => He.fAd K ("most_open", none), "most_open", "most_open", defArgs s_most_open, defBody s_most_open, defScope s_most_open, [], []⟩, ⟨fun K => He.fAd K ("first_above", none), "first_above", "first_above", defArgs s_first_above, defBody s_first_above, defScope s_first_above, [], []⟩, ⟨fun K => He.fAd K ("first_clash", none), "first_clash", "first_clash", defArgs s_first_clash, defBody s_first_clash, defScope s_first_clash, [], []⟩, ⟨fun K => He.fAd K ("check_digits", none), "check_digits", "check_digits", defArgs s_check_digits, defBody s_check_digits, defScope s_check_digits, [], []⟩, ⟨fun K => He.fAd K ("numbers_between", none), "numbers_between", "numbers_between", defArgs s_numbers_between, defBody s_numbers_between, defScope s_numbers_between, [], []⟩, ⟨fun K => He.fAd K ("holders", none), "holders", "holders", defArgs s_holders, defBody s_holders, defScope s_holders, [], []⟩, ⟨fun K => He.fAd K ("mistaken", none), "mistaken", "mistaken", defArgs s_mistaken, defBody s_mistaken, defScope s_mistaken, [], []⟩, ⟨fun K => He.fAd K ("tick_of_taking", none), "tick_of_taking", "tick_of_taking", defArgs s_tick_of_taking, defBody s_tick_of_taking, defScope s_tick_of_taking, [], []⟩, ⟨fun K => He.fAd K ("tick_of_calling", none), "tick_of_calling", "tick_of_calling", defArgs s_tick_of_calling, defBody s_tick_of_calling, defScope s_tick_of_calling, [], []⟩, ⟨fun K => He.fAd K ("find_call", none), "find_call", "find_call", defArgs s_find_call, defBody s_find_call, defScope s_find_call, [], []⟩, ⟨fun K => He.fAd K ("ticket_times", none), "ticket_times", "ticket_times", defArgs s_ticket_times, defBody s_ticket_times, defScope s_ticket_times, [], []⟩, ⟨fun K => He.fAd K ("shown", none), "shown", "shown", defArgs s_shown, defBody s_shown, defScope s_shown, [], []⟩, ⟨fun K => He.fAd K ("display", none), "display", "display", defArgs s_display, defBody s_display, defScope s_display, [], []⟩, ⟨fun K => He.fAd K ("longest_wait", none), "longest_wait", "longest_wait", defArgs s_longest_wait, defBody s_longest_wait, defScope s_longest_wait, [], []⟩, ⟨fun K => He.fAd K ("distinct_ticks", none), "distinct_ticks", "distinct_ticks", defArgs s_distinct_ticks, defBody s_distinct_ticks, defScope s_distinct_ticks, [], []⟩] : List He5.DefA) ++ ([⟨fun K => He.fAd K ("Watcher", some "__init__"), "__init__", "Watcher.__init__", defArgs s_Watcher_init, defBody s_Watcher_init, defScope s_Watcher_init, [], []⟩, ⟨fun K => He.fAd K ("Watcher", some "see"), "see", "Watcher.see", defArgs s_Watcher_see, defBody s_Watcher_see, defScope s_Watcher_see, [], []⟩, ⟨fun K => (prA K (He.ga K "Watcher") "candidates").2, "candidates", "Watcher.candidates", defArgs s_Watcher_candidates, defBody s_Watcher_candidates, defScope s_Watcher_candidates, [], []⟩, ⟨fun K => (prA K (He.ga K "Watcher") "history").2, "history", "Watcher.history", defArgs s_Watcher_history, defBody s_Watcher_history, defScope s_Watcher_history, [], []⟩, ⟨fun K => (prA K (He.ga K "Watcher") "next_displays").2, "next_displays", "Watcher.next_displays", defArgs s_Watcher_next_displays, defBody s_Watcher_next_displays, defScope s_Watcher_next_displays, [], []⟩, ⟨fun K => He.fAd K ("Bench", some "__init__"), "__init__", "Bench.__init__", defArgs s_Bench_init, defBody s_Bench_init, defScope s_Bench_init, [], []⟩, ⟨fun K => He.fAd K ("Bench", some "change"), "change", "Bench.change", defArgs s_Bench_change, defBody s_Bench_change, defScope s_Bench_change, [], []⟩, ⟨fun K => He.fAd K ("Bench", some "set_modulus"), "set_modulus", "Bench.set_modulus", defArgs s_Bench_set_modulus, defBody s_Bench_set_modulus, defScope s_Bench_set_modulus, [], []⟩, ⟨fun K => (prA K (He.ga K "Bench") "text").2, "text", "Bench.text", defArgs s_Bench_text, defBody s_Bench_text, defScope s_Bench_text, [], []⟩, ⟨fun K => (prA K (He.ga K "Bench") "operations").2, "operations", "Bench.operations", defArgs s_Bench_operations, defBody s_Bench_operations, defScope s_Bench_operations, [], []⟩, ⟨fun K => He.fAd K ("encode", none), "encode", "encode", defArgs s_encode, defBody s_encode, defScope s_encode, [], []⟩, ⟨fun K => He.fAd K ("_law_random", none), "_law_random", "_law_random", defArgs s_law_random, defBody s_law_random, defScope s_law_random, [], []⟩, ⟨fun K => He.fAd K ("_law_hall", none), "_law_hall", "_law_hall", defArgs s_law_hall, defBody s_law_hall, defScope s_law_hall, [], []⟩, ⟨fun K => He.fAd K ("_law_below", none), "_law_below", "_law_below", defArgs s_law_below, defBody s_law_below, defScope s_law_below, [], []⟩, ⟨fun K => He.fAd K ("_law_pattern", none), "_law_pattern", "_law_pattern", defArgs s_law_pattern, defBody s_law_pattern, defScope s_law_pattern, [], []⟩, ⟨fun K => He.fAd K ("_law_small", none), "_law_small", "_law_small", defArgs s_law_small, defBody s_law_small, defScope s_law_small, [], []⟩, ⟨fun K => He.fAd K ("_law_results", none), "_law_results", "_law_results", defArgs s_law_results, defBody s_law_results, defScope s_law_results, [], []⟩, ⟨fun K => He.fAd K ("_law_equal", none), "_law_equal", "_law_equal", defArgs s_law_equal, defBody s_law_equal, defScope s_law_equal, [], []⟩, ⟨fun K => He.fAd K ("law", none), "law", "law", defArgs s_law, defBody s_law, defScope s_law, [], []⟩] : List He5.DefA)
def faL : List He.Fa := ([.glo "is_int_in", .glo "greatest_common", .glo "least_common", .glo "check_tick", .glo "check_entries", .meth "Hall" "taken", .meth "Hall" "called", .meth "Hall" "events", .glo "open_range", .glo "open_tickets", .glo "count_open", .glo "most_open", .glo "first_above", .glo "first_clash", .glo "check_digits", .glo "numbers_between", .glo "holders", .glo "mistaken", .glo "tick_of_taking", .glo "tick_of_calling", .glo "find_call", .glo "ticket_times", .glo "shown", .glo "display", .glo "longest_wait", .glo "distinct_ticks", .meth "Watcher" "see", .meth "Bench" "change", .meth "Bench" "set_modulus", .glo "encode"] : List He.Fa) ++ ([.glo "_law_random", .glo "_law_hall", .glo "_law_below", .glo "_law_pattern", .glo "_law_small", .glo "_law_results", .glo "_law_equal", .glo "law", .cls "Bench", .mkr "Bench", .glo "Bench", .cls "Hall", .mkr "Hall", .glo "Hall", .cls "Watcher", .mkr "Watcher", .glo "Watcher", .noat "Hall" "modulus", .noat "Hall" "takes", .noat "Hall" "calls", .noat "Hall" "lateness", .noat "Hall" "length", .noat "Hall" "taken_by", .noat "Hall" "called_by", .noat "Bench" "now", .noat "Bench" "past", .noat "Bench" "undone", .noat "Bench" "saved", .noat "Watcher" "hall", .noat "Watcher" "starts"] : List He.Fa) ++ ([.noat "Watcher" "facts", .free "len", .free "sum", .free "max", .free "min", .free "abs", .free "divmod", .free "any", .free "all", .free "isinstance", .free "list", .free "tuple", .free "int", .free "str", .free "bool", .free "range", .free "enumerate", .free "sorted", .free "set", .free "zip", .int "MIN_MODULUS" 2, .int "MAX_MODULUS" 10000, .int "MAX_ENTRIES" 12, .int "MAX_ENTRY" 9, .int "MAX_LATENESS" 99, .int "MAX_TICK" 1000000000000000000, .glo "WORDS", .int "MAX_TICKETS" 1000, .int "MAX_TICKS" 5000, .str "MODULUS" "modulus"] : List He.Fa) ++ ([.int "TAG" 84, .int "BYTE" 256] : List He.Fa)
def exL (K : PySem.W.Frag) : Bool := [propB K (He.ga K "Hall") "text", propB K (He.ga K "Hall") "period", propB K (He.ga K "Hall") "growth", propB K (He.ga K "Watcher") "candidates", propB K (He.ga K "Watcher") "history", propB K (He.ga K "Watcher") "next_displays", propB K (He.ga K "Bench") "text", propB K (He.ga K "Bench") "operations", He.tupB K "WORDS" [.str "modulus", .str "takes", .str "calls", .str "lateness"], tyTB K (He.ga K "WORDS")].all id
def nmL : List PySem.Str := (["_wall", "HallError", "InvalidHall", "InvalidTick", "InvalidNumber", "InvalidDigits", "TooMany", "Contradiction", "MIN_MODULUS", "MAX_MODULUS", "MAX_ENTRIES", "MAX_ENTRY", "MAX_LATENESS", "MAX_TICK", "WORDS", "is_int_in", "greatest_common", "least_common", "check_tick", "check_entries", "Hall", "MAX_TICKETS", "open_range", "open_tickets", "count_open", "most_open", "first_above", "first_clash", "check_digits", "numbers_between"] : List PySem.Str) ++ (["holders", "mistaken", "tick_of_taking", "tick_of_calling", "find_call", "ticket_times", "shown", "display", "longest_wait", "MAX_TICKS", "distinct_ticks", "Watcher", "MODULUS", "Bench", "TAG", "BYTE", "encode", "_law_random", "_law_hall", "_law_below", "_law_pattern", "_law_small", "_law_results", "_law_equal"] : List PySem.Str)
abbrev RL : PySem.W.OpenRow := PySem.W.OpenLaw.row PySem.Challenge.rw_ticketwrap_k29_repeated_calls
abbrev hkL : PySem.W.Hook := hookT 6 faL fnL exL lamL
def obL (s : PySem.W.SharedT) : AlT := obsT 6 faL fnL exL lamL (HandSHeadRun.getT s)
theorem obL_eq (s : PySem.W.SharedT) : obL s = hkL.obs s.abs := obsT_eq (HandSHeadRun.getT_eq s)
theorem runL (w : World) : HandSHeadRun.RunEq RL (PySem.W.view RL.prog [62]) hkL obL 20000 nmL w := by
  intro os
  kernel_rfl
theorem hd_of {K : PySem.W.Frag} {h : Heap} {mg : Str → Option Value} (X : K.In h) (G : h.Ns mainGlobals mg) (c : He5.SaysA faL fnL K) (e : exL K = true) : Hd K mg where
  g_is_int_in := He.glo_ok X G (c.fact 0)
  f_is_int_in := c.def_ 0
  g_greatest_common := He.glo_ok X G (c.fact 1)
  f_greatest_common := c.def_ 1
  g_least_common := He.glo_ok X G (c.fact 2)
  f_least_common := c.def_ 2
  g_check_tick := He.glo_ok X G (c.fact 3)
  f_check_tick := c.def_ 3
  g_check_entries := He.glo_ok X G (c.fact 4)
  f_check_entries := c.def_ 4
  f_Hall_init := c.def_ 5
  f_Hall_text := c.def_ 6
  f_Hall_period := c.def_ 7
  f_Hall_growth := c.def_ 8
  m_Hall_taken := He.meth_ok (c.fact 5)
  f_Hall_taken := c.def_ 9
  m_Hall_called := He.meth_ok (c.fact 6)
  f_Hall_called := c.def_ 10
  m_Hall_events := He.meth_ok (c.fact 7)
  f_Hall_events := c.def_ 11
  g_open_range := He.glo_ok X G (c.fact 8)
  f_open_range := c.def_ 12
  g_open_tickets := He.glo_ok X G (c.fact 9)
  f_open_tickets := c.def_ 13
  g_count_open := He.glo_ok X G (c.fact 10)
  f_count_open := c.def_ 14
  g_most_open := He.glo_ok X G (c.fact 11)
  f_most_open := c.def_ 15
  g_first_above := He.glo_ok X G (c.fact 12)
  f_first_above := c.def_ 16
  g_first_clash := He.glo_ok X G (c.fact 13)
  f_first_clash := c.def_ 17
  g_check_digits := He.glo_ok X G (c.fact 14)
  f_check_digits := c.def_ 18
  g_numbers_between := He.glo_ok X G (c.fact 15)
  f_numbers_between := c.def_ 19
  g_holders := He.glo_ok X G (c.fact 16)
  f_holders := c.def_ 20
  g_mistaken := He.glo_ok X G (c.fact 17)
  f_mistaken := c.def_ 21
  g_tick_of_taking := He.glo_ok X G (c.fact 18)
  f_tick_of_taking := c.def_ 22
  g_tick_of_calling := He.glo_ok X G (c.fact 19)
  f_tick_of_calling := c.def_ 23
  g_find_call := He.glo_ok X G (c.fact 20)
  f_find_call := c.def_ 24
  g_ticket_times := He.glo_ok X G (c.fact 21)
  f_ticket_times := c.def_ 25
  g_shown := He.glo_ok X G (c.fact 22)
  f_shown := c.def_ 26
  g_display := He.glo_ok X G (c.fact 23)
  f_display := c.def_ 27
  g_longest_wait := He.glo_ok X G (c.fact 24)
  f_longest_wait := c.def_ 28
  g_distinct_ticks := He.glo_ok X G (c.fact 25)
  f_distinct_ticks := c.def_ 29
  f_Watcher_init := c.def_ 30
  m_Watcher_see := He.meth_ok (c.fact 26)
  f_Watcher_see := c.def_ 31
  f_Watcher_candidates := c.def_ 32
  f_Watcher_history := c.def_ 33
  f_Watcher_next_displays := c.def_ 34
  f_Bench_init := c.def_ 35
  m_Bench_change := He.meth_ok (c.fact 27)
  f_Bench_change := c.def_ 36
  m_Bench_set_modulus := He.meth_ok (c.fact 28)
  f_Bench_set_modulus := c.def_ 37
  f_Bench_text := c.def_ 38
  f_Bench_operations := c.def_ 39
  g_encode := He.glo_ok X G (c.fact 29)
  f_encode := c.def_ 40
  g_law_random := He.glo_ok X G (c.fact 30)
  f_law_random := c.def_ 41
  g_law_hall := He.glo_ok X G (c.fact 31)
  f_law_hall := c.def_ 42
  g_law_below := He.glo_ok X G (c.fact 32)
  f_law_below := c.def_ 43
  g_law_pattern := He.glo_ok X G (c.fact 33)
  f_law_pattern := c.def_ 44
  g_law_small := He.glo_ok X G (c.fact 34)
  f_law_small := c.def_ 45
  g_law_results := He.glo_ok X G (c.fact 35)
  f_law_results := c.def_ 46
  g_law_equal := He.glo_ok X G (c.fact 36)
  f_law_equal := c.def_ 47
  g_law := He.glo_ok X G (c.fact 37)
  f_law := c.def_ 48
  c_Bench := He.cls_ok (c.fact 38)
  k_Bench := He.mkr_ok (c.fact 39)
  g_Bench := He.glo_ok X G (c.fact 40)
  c_Hall := He.cls_ok (c.fact 41)
  k_Hall := He.mkr_ok (c.fact 42)
  g_Hall := He.glo_ok X G (c.fact 43)
  c_Watcher := He.cls_ok (c.fact 44)
  k_Watcher := He.mkr_ok (c.fact 45)
  g_Watcher := He.glo_ok X G (c.fact 46)
  n_modulus := He.noat_ok (c.fact 47)
  n_takes := He.noat_ok (c.fact 48)
  n_calls := He.noat_ok (c.fact 49)
  n_lateness := He.noat_ok (c.fact 50)
  n_length := He.noat_ok (c.fact 51)
  n_taken_by := He.noat_ok (c.fact 52)
  n_called_by := He.noat_ok (c.fact 53)
  n_Bench_now := He.noat_ok (c.fact 54)
  n_Bench_past := He.noat_ok (c.fact 55)
  n_Bench_undone := He.noat_ok (c.fact 56)
  n_Bench_saved := He.noat_ok (c.fact 57)
  n_Watcher_hall := He.noat_ok (c.fact 58)
  n_Watcher_starts := He.noat_ok (c.fact 59)
  n_Watcher_facts := He.noat_ok (c.fact 60)
  b_len := He.free_ok X G (c.fact 61)
  b_sum := He.free_ok X G (c.fact 62)
  b_max := He.free_ok X G (c.fact 63)
  b_min := He.free_ok X G (c.fact 64)
  b_abs := He.free_ok X G (c.fact 65)
  b_divmod := He.free_ok X G (c.fact 66)
  b_any := He.free_ok X G (c.fact 67)
  b_all := He.free_ok X G (c.fact 68)
  b_isinstance := He.free_ok X G (c.fact 69)
  b_list := He.free_ok X G (c.fact 70)
  b_tuple := He.free_ok X G (c.fact 71)
  b_int := He.free_ok X G (c.fact 72)
  b_str := He.free_ok X G (c.fact 73)
  b_bool := He.free_ok X G (c.fact 74)
  b_range := He.free_ok X G (c.fact 75)
  b_enumerate := He.free_ok X G (c.fact 76)
  b_sorted := He.free_ok X G (c.fact 77)
  b_set := He.free_ok X G (c.fact 78)
  b_zip := He.free_ok X G (c.fact 79)
  i_MIN_MODULUS := He.int_ok X G (c.fact 80)
  i_MAX_MODULUS := He.int_ok X G (c.fact 81)
  i_MAX_ENTRIES := He.int_ok X G (c.fact 82)
  i_MAX_ENTRY := He.int_ok X G (c.fact 83)
  i_MAX_LATENESS := He.int_ok X G (c.fact 84)
  i_MAX_TICK := He.int_ok X G (c.fact 85)
  g_WORDS := He.glo_ok X G (c.fact 86)
  t_WORDS := He.tupB_ok (List.all_eq_true.mp e (He.tupB K "WORDS" [.str "modulus", .str "takes", .str "calls", .str "lateness"]) (List.mem_of_getElem? (i := 8) rfl))
  i_MAX_TICKETS := He.int_ok X G (c.fact 87)
  i_MAX_TICKS := He.int_ok X G (c.fact 88)
  s_MODULUS := He.str_ok X G (c.fact 89)
  i_TAG := He.int_ok X G (c.fact 90)
  i_BYTE := He.int_ok X G (c.fact 91)
  p_Hall_text := propB_ok (List.all_eq_true.mp e (propB K (He.ga K "Hall") "text") (List.mem_of_getElem? (i := 0) rfl))
  p_Hall_period := propB_ok (List.all_eq_true.mp e (propB K (He.ga K "Hall") "period") (List.mem_of_getElem? (i := 1) rfl))
  p_Hall_growth := propB_ok (List.all_eq_true.mp e (propB K (He.ga K "Hall") "growth") (List.mem_of_getElem? (i := 2) rfl))
  p_Watcher_candidates := propB_ok (List.all_eq_true.mp e (propB K (He.ga K "Watcher") "candidates") (List.mem_of_getElem? (i := 3) rfl))
  p_Watcher_history := propB_ok (List.all_eq_true.mp e (propB K (He.ga K "Watcher") "history") (List.mem_of_getElem? (i := 4) rfl))
  p_Watcher_next_displays := propB_ok (List.all_eq_true.mp e (propB K (He.ga K "Watcher") "next_displays") (List.mem_of_getElem? (i := 5) rfl))
  p_Bench_text := propB_ok (List.all_eq_true.mp e (propB K (He.ga K "Bench") "text") (List.mem_of_getElem? (i := 6) rfl))
  p_Bench_operations := propB_ok (List.all_eq_true.mp e (propB K (He.ga K "Bench") "operations") (List.mem_of_getElem? (i := 7) rfl))
  y_WORDS := tyTB_ok (List.all_eq_true.mp e (tyTB K (He.ga K "WORDS")) (List.mem_of_getElem? (i := 9) rfl))
theorem factsL {P : Program} {w : World} {K : PySem.W.Frag} {h : Heap} {mg : Str → Option Value} {f : Addr} (X : K.In h) (G : h.Ns mainGlobals mg) (hfa : mg ("law" : Str) = some (.ref f)) (c : SaysW faL fnL exL K) :
    ∃ fd : FuncData, (∀ (s : Shared) (v : Value), BindsTo s fd ⟨[v], []⟩ [("_law_script", v)]) ∧ ∀ base : Heap, K.In base → base.Ns mainGlobals mg → (∀ p ∈ csOf K lamL, LamX.TabB base mg p.1 p.2) → FnOk P w K mg base CX0 12 f fd ["_law_script"] (spLawT K [tabF K "first_clash"]) := by
  have T := hd_of X G c.1 c.2
  obtain ⟨fd, F⟩ := T.f_law
  have e := hfa.symm.trans T.g_law
  cases e
  have b := FunD.bindsA (ps := ["_law_script"]) F fun _ _ _ _ _ _ us hl => match us, hl with | [_], _ => rfl
  refine ⟨fd, fun s v => b s [v] rfl, fun base _ _ hB => ?_⟩
  have I : Tb K mg base := ⟨fun at_ h => hB _ (List.mem_map.mpr ⟨at_, h, rfl⟩)⟩
  exact ok_law T F
end TW
open PySem PySem.W PySem.Calls PyProof.Rows
theorem PySem.Challenge.cw_ticketwrap_k29_repeated_calls_holds : PySem.Challenge.rw_ticketwrap_k29_repeated_calls.Holds := by
  w_on; o_law
  refine HandSHeadRun.head_any (r := TW.RL) (q := view TW.RL.prog [62]) (H := TW.hkL) (ob := TW.obL) (M := 20000) (loose := TW.nmL) (d := HandSHeadRun.topDef TW.RL.prog 62) (kwd := []) TW.obL_eq
    (by kernel_rfl) (fun s => by kernel_rfl) TW.runL (by kernel_rfl) (by kernel_rfl) (by kernel_rfl) (by rfl) (by first | assumption | decide +kernel) (by decide +kernel) ⟨rfl, rfl, rfl, rfl, rfl, by decide +kernel⟩ ?hw ?hc
  case hw => w_witness2
  case hc =>
    refine LamX.walk_ofTsE (l := PySem.Challenge.rw_ticketwrap_k29_repeated_calls) (n := 63) (k := 12) (x := "_law_script") (CX := fun _ => L2.CX0) rfl (by decide) (by kernel_rfl) ⟨rfl, by decide, by decide⟩ ?F (fun _ _ _ _ _ z => z)
    intro w mg fa h Y G hmg0
    obtain ⟨K, KX, c, hd, nd⟩ := Y
    have hmg : mg ("law" : PySem.Str) = some (.ref fa) := by
      have e : (HandSHeadRun.topDef TW.RL.prog 62).name = ("law" : PySem.Str) := by kernel_rfl
      rw [← e]
      exact hmg0
    obtain ⟨fd, hb, hF⟩ := TW.factsL (P := (PySem.Challenge.rw_ticketwrap_k29_repeated_calls).prog) (w := w) KX G hmg c
    refine ⟨K, KX, fd, TW.csOf K TW.lamL, TW.spLawT K [TW.tabF K "first_clash"], fun p hp => (hd p hp).1, fun p hp => (hd p hp).2.1, fun p hp => (hd p hp).2.2, hb, fun H a ns hl _ hH hS => ⟨a, ns, rfl, hl, nd, fun T hT => ?_, hS, fun _ => rfl⟩, hF⟩
    obtain ⟨p, hp, e⟩ := List.mem_map.mp (show T ∈ (TW.csOf K TW.lamL).map (·.2) from hT)
    rw [← e]
    exact hH p hp
